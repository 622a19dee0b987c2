import PyProof.Rows.All
import Wide.All
import OpenK.AllK
import Wide.FinOn
import HandS.SetBool
import HandS.SetKeys
import HandS.ForMost
import HandS.Exc
import HandS.TryOnly
import HandS.ExcOwn
import HandS.WordsExc
import HandS.ExcIs
import HandS.IsInst
import HandS.StrMore
import HandS.Wide
import HandS.TupAny
import HandS.Flow
import HandS.TupLe
import HandS.HotCalls
import HandS.ExcCtx
import HandS.Defaults
import HandS.WordsDict
import HandS.More
import HandS.NoneIn
import HandS.RaiseMore
import HandS.CallRecv
import PySem.Challenge.RW_desksagree_k50_whole_disks_that_are_cut
import KE.RegKIsAll
set_option Elab.async false
set_option maxRecDepth 100000
set_option maxHeartbeats 8000000
namespace TxtSet
open PySem PySem.Spec PyProof.Rows L2
/-! ### sets of texts with what sorting needs: the table rises and is led -/
def txt (z : Int × Value) : Str := match z.2 with | .str x _ => x | _ => Str.empty
def IsTxt (w : World) (z : Int × Value) : Prop := ∃ x tk, z = (hashStr w x, Value.str x tk)
/-- the set of texts at d: S tells its members, m how many there are -/
def SetX (w : World) (h : Heap) (d : Addr) (S : Str → Bool) (m : Nat) : Prop :=
  ∃ ob el pos tab, h.get? d = some ob ∧ ob.ExactSet ∧ ob.data = .set el pos tab ∧ (∀ z ∈ el.toList, IsTxt w z) ∧ (el.toList.map txt).Nodup ∧
    (∀ x, S x = true ↔ x ∈ el.toList.map txt) ∧ el.size < scanBound ∧ tab.fits el.size = true ∧ el.size = m ∧ Ris tab.place.toList ∧ (w.params.followText "set-order" = true ∨ tab.led = true)
section
variable {P : Program} {w : World} {A : Around} {E : Value → Shared → Prop} {s : Shared} {d : Addr} {S : Str → Bool} {m : Nat}
theorem txt_elems {l : List (Int × Value)} (q : ∀ z ∈ l, IsTxt w z) : ElemsOf (strKind P w) l := fun z mz => by
  obtain ⟨x, tk, rfl⟩ := q z mz
  exact ⟨⟨x, strKind_is P w x tk, rfl⟩, rfl⟩
theorem txt_is {z : Int × Value} (q : IsTxt w z) (x : Str) : (strKind P w).is x z.2 = true ↔ txt z = x := by
  obtain ⟨y, tk, rfl⟩ := q
  show ((strKind P w).is x (.str y tk) = true) ↔ y = x
  constructor
  · exact fun e => ((strKind P w).inj _ _ _ e (strKind_is P w y tk)).symm
  · rintro rfl
    exact strKind_is P w y tk
theorem txt_mem {l : List (Int × Value)} (q : ∀ z ∈ l, IsTxt w z) (x : Str) : x ∈ l.map txt ↔ ∃ z ∈ l, (strKind P w).is x z.2 = true := by
  simp only [List.mem_map]
  exact ⟨fun ⟨z, mz, e⟩ => ⟨z, mz, (txt_is (q z mz) x).mpr e⟩, fun ⟨z, mz, e⟩ => ⟨z, mz, (txt_is (q z mz) x).mp e⟩⟩
theorem SetX.of (R : SetX w s.heap d S m) : s.heap.SetOf (strKind P w) d S m := by
  obtain ⟨ob, el, pos, tab, f1, f2, f3, f4, f5, f6, f7, f8, f9, _⟩ := R
  exact ⟨ob, el, pos, tab, f1, f2, f3, txt_elems f4, fun x => (f6 x).trans (txt_mem f4 x), f7, f8, f9⟩
/-- what an add leaves behind, laid anew or not -/
theorem lay_end {step : Bool → Sem Unit} (quiet : ∀ (b : Bool) (z : Shared) (G : Unit → Shared → Prop), G () z → wpAny (model P w) A (step b) G E z)
    {ob : Obj} {el : Array (Int × Value)} {pos : Nat} {tab : SetTable} (f1 : s.heap.get? d = some ob) (f2 : ob.ExactSet) (f3 : ob.data = .set el pos tab)
    {el2 : Array (Int × Value)} {tab2 : SetTable} {S2 : Str → Bool} (q4 : ∀ z ∈ el2.toList, IsTxt w z) (q5 : (el2.toList.map txt).Nodup) (q6 : ∀ x, S2 x = true ↔ x ∈ el2.toList.map txt)
    (q7 : el2.size < scanBound) (q8 : tab2.fits el2.size = true) (q10 : Ris tab2.place.toList) (q11 : w.params.followText "set-order" = true ∨ tab2.led = true) {dummy : Bool} {R : Option Bool → Shared → Prop}
    (done : ∀ g, Heap.SameBut d s.heap g → SetX w g d S2 el2.size → R (some true) { s with heap := g }) :
    wpAny (model P w) A (do
        storeSet d el2 tab2
        if (!dummy && tab2.tooFull) = true then do
            step (relayAll tab2 el2 (SetTable.grown el2.size)).2.2
            storeSet d (relayAll tab2 el2 (SetTable.grown el2.size)).1 (relayAll tab2 el2 (SetTable.grown el2.size)).2.1
            pure (some true)
          else pure (some true)) R E s := by
  have g1 := PpSet.storeB_at (es' := el2) (t' := tab2) f1 f3
  have only := Heap.SameBut.update s.heap d (Obj.putSet el2 tab2)
  refine wpAny_bind (wpAny_storeSet_of f1 f3 ?_ (fits_of_scanBound q7))
  by_cases full : (!dummy && tab2.tooFull) = true
  · rw [if_pos full]
    have r1 := relayAll_perm tab2 el2 (SetTable.grown el2.size)
    have r2 := relayAll_fits tab2 el2 (SetTable.grown el2.size)
    have r3 := relayAll_ris tab2 el2 (SetTable.grown el2.size)
    have r4 := relayAll_led tab2 el2 (SetTable.grown el2.size)
    generalize relayAll tab2 el2 (SetTable.grown el2.size) = laid at r1 r2 r3 r4 ⊢
    obtain ⟨el3, tab3, gave⟩ := laid
    dsimp only at r1 r2 r3 r4 ⊢
    have r5 : el3.size = el2.size := by rw [← Array.length_toList, r1.length_eq, Array.length_toList]
    refine wpAny_bind (quiet _ _ _ ?_)
    refine wpAny_bind (wpAny_storeSet_of g1 rfl ?_ (fits_of_scanBound (by rw [r5]; exact q7)))
    refine wpAny_pure (done _ (only.trans (Heap.SameBut.update _ d _)) ⟨_, el3, _, tab3, PpSet.storeB_at (es' := el3) (t' := tab3) g1 rfl, f2, rfl, fun z mz => q4 z (r1.mem_iff.mp mz), (r1.map txt).nodup_iff.mpr q5,
      fun x => (q6 x).trans (r1.map txt).mem_iff.symm, by rw [r5]; exact q7, r2, r5, r3, q11.imp id fun e => r4.trans e⟩)
  · rw [if_neg full]
    exact wpAny_pure (done _ only ⟨_, el2, _, tab2, g1, f2, rfl, q4, q5, q6, q7, q8, rfl, q10, q11⟩)
/-- set.add's inner part -/
theorem add_hashed {x : Str} {tk : Tok} {Q : Bool → Shared → Prop} (R : SetX w s.heap d S m) (room : m + 1 < scanBound)
    (done : ∀ g, Heap.SameBut d s.heap g → SetX w g d (fun y => S y || decide (y = x)) (if S x = true then m else m + 1) → Q (!S x) { s with heap := g }) :
    wpAny (model P w) A (setAddHashed d (.str x tk) ((strKind P w).hash x)) Q E s := by
  obtain ⟨ob, el, pos, tab, f1, f2, f3, f4, f5, f6, f7, f8, f9, f10, f11⟩ := R
  have own : (strKind P w).is x (.str x tk) = true := strKind_is P w x tk
  have light : (Value.str x tk).scannable = true := rfl
  have all : ElemsOf (strKind P w) el.toList := txt_elems f4
  unfold setAddHashed setAddHashedIn
  refine wpAny_holding (wpAny_bind (wpAny_setState_of f1 f3 f8 ?_))
  dsimp only
  rw [byScan_of light f7 all]
  simp only [↓reduceIte]
  unfold setAddByScan
  refine wpAny_bind ?_
  refine wpAny_bind (wpAny_rule ?_)
  refine wpAny_bind (wpAny_setScan_of own f1 f3 f8 all ?_)
  cases seen : List.findIdx? (fun z => (strKind P w).is x z.2) el.toList with
  | some j =>
    obtain ⟨lt, here, _⟩ := List.findIdx?_eq_some_iff_getElem.mp seen
    have yes : S x = true := (f6 x).mpr ((txt_mem (P := P) (w := w) f4 x).mpr ⟨el.toList[j], List.getElem_mem lt, here⟩)
    have q := done s.heap (Heap.SameBut.refl d s.heap) ⟨ob, el, pos, tab, f1, f2, f3, f4, f5, fun y => ?_, f7, f8, by rw [if_pos yes]; exact f9, f10, f11⟩
    · rw [yes] at q
      exact wpAny_pure (wpAny_pure q)
    · rw [← f6 y, Bool.or_eq_true, decide_eq_true_eq]
      exact ⟨fun o => o.elim id fun e => by rw [e]; exact yes, Or.inl⟩
  | none =>
    have nope : x ∉ el.toList.map txt := fun o => by
      obtain ⟨z, mz, e⟩ := (txt_mem (P := P) (w := w) f4 x).mp o
      have := List.findIdx?_eq_none_iff.mp seen z mz
      rw [e] at this
      cases this
    have no : S x = false := by
      cases e : S x with
      | false => rfl
      | true => exact absurd ((f6 x).mp e) nope
    have still : ∀ (b : Bool) {z : Shared} {G : Unit → Shared → Prop}, G () z → wpAny (model P w) A (match b with | true => rule "set.scan.the-table-gave-way" | false => pure ()) G E z :=
      fun b _ _ g => by
        cases b
        · exact wpAny_pure g
        · exact wpAny_rule g
    have p1 := layNew_perm tab el ((strKind P w).hash x) (.str x tk)
    have p2 := layNew_fits tab el ((strKind P w).hash x) (.str x tk)
    have p3 := layNew_ris tab el ((strKind P w).hash x) (.str x tk) f10
    have p4 := layNew_led tab el ((strKind P w).hash x) (.str x tk)
    generalize layNew tab el ((strKind P w).hash x) (.str x tk) = laid at p1 p2 p3 p4 ⊢
    obtain ⟨el2, tab2, dummy, gave⟩ := laid
    dsimp only at p1 p2 p3 p4 ⊢
    rw [Array.toList_push] at p1
    have p5 : el2.toList.Perm (((strKind P w).hash x, Value.str x tk) :: el.toList) := p1.trans (List.perm_append_singleton _ _)
    have p6 : (el2.toList.map txt).Perm (x :: el.toList.map txt) := p5.map txt
    have q4 : ∀ z ∈ el2.toList, IsTxt w z := fun z mz => by
      rcases List.mem_cons.mp (p5.mem_iff.mp mz) with e | mz
      · exact ⟨x, tk, e⟩
      · exact f4 z mz
    have q5 : (el2.toList.map txt).Nodup := p6.nodup_iff.mpr (List.nodup_cons.mpr ⟨nope, f5⟩)
    have q6 : ∀ y, (S y || decide (y = x)) = true ↔ y ∈ el2.toList.map txt := fun y => by
      rw [p6.mem_iff, List.mem_cons, ← f6 y, Bool.or_eq_true, decide_eq_true_eq]
      exact Or.comm
    have q9 : el2.size = m + 1 := by rw [← Array.length_toList, p5.length_eq, List.length_cons, Array.length_toList, f9]
    have q7 : el2.size < scanBound := by rw [q9]; exact room
    have q11 : w.params.followText "set-order" = true ∨ tab2.led = true := f11.imp id fun e => p4.trans e
    have fin : ∀ g, Heap.SameBut d s.heap g → SetX w g d (fun y => S y || decide (y = x)) el2.size → Q true { s with heap := g } := fun g sb r => by
      have q := done g sb
      rw [no] at q
      rw [q9] at r
      exact q r
    refine wpAny_bind (still _ ?_)
    split
    · refine wpAny_bind ?_
      rw [hashByValue_scannable 8 light]
      refine wpAny_pure ?_
      refine lay_end ?_ f1 f2 f3 q4 q5 q6 q7 ?_ ?_ ?_ ?_
      · exact fun b z G g => still b g
      · first | (split <;> first | exact p2 | exact SetTable.fits_plain_off p2) | exact p2
      · first | (split <;> exact p3) | exact p3
      · first | (split <;> exact q11) | exact q11
      · exact fun g sb r => wpAny_pure (fin g sb r)
    · refine wpAny_bind (wpAny_pure ?_)
      simp only [↓reduceIte]
      exact lay_end (fun b z G g => still b g) f1 f2 f3 q4 q5 q6 q7 p2 p3 q11 fun g sb r => wpAny_pure (fin g sb r)
/-- set.add of a text -/
theorem add_call {x : Str} {tk : Tok} {Q : Value → Shared → Prop} (R : SetX w s.heap d S m) (room : m + 1 < scanBound)
    (done : ∀ g, Heap.SameBut d s.heap g → SetX w g d (fun y => S y || decide (y = x)) (if S x = true then m else m + 1) → Q .none { s with heap := g, toks := s.toks + 1 }) :
    wpAny (model P w) A (call (.builtin "set.add") [.ref d, .str x tk]) Q E s := by
  have so : s.heap.SetOf (strKind P w) d S m := R.of
  refine wpAny_call_entry F.slot_set_add so.typeIs F.entry_set_add ?_ (F.args_set_add_2 _ _)
  unfold Builtin.«set.add» Builtin.Frozenset.oneOther
  simp only [List.isEmpty_nil, bind_assoc]
  unfold Builtin.Frozenset.addrOf setAdd
  iterate 2
    refine wpAny_bind (wpAny_pure ?_)
    try dsimp only
  refine wpAny_bind (wpAny_holding (wpAny_bind ((strKind P w).pyHash (strKind_is P w x tk) (add_hashed (s := { s with toks := s.toks + 1 }) R room fun g sb r => ?_))))
  exact wpAny_pure ⟨_, rfl, done g sb r⟩
theorem fresh_set {h : Heap} (w : World) : SetX w (h.push { cls := .type "set", dict := none, data := .set #[] 0 (.fresh 0 0 (!w.params.followText "set-order")) }) h.objs.size (fun _ => false) 0 := by
  refine ⟨_, #[], 0, _, Heap.get?_push_size _ rfl, ⟨rfl, rfl, rfl⟩, rfl, fun z mz => by simp at mz, by simp, fun x => by simp, by decide, rfl, rfl, List.Pairwise.nil, ?_⟩
  cases e : w.params.followText "set-order" with
  | false => exact .inr rfl
  | true => exact .inl rfl
theorem strs_of_vals : ∀ {l : List Value}, (∀ v ∈ l, ∃ x tk, v = Value.str x tk) → StrsAre l (l.map fun v => match v with | .str x _ => x | _ => Str.empty)
  | [], _ => .nil
  | v :: l, h => by
    obtain ⟨x, tk, rfl⟩ := h v (List.mem_cons_self ..)
    exact .cons x tk (strs_of_vals fun u mu => h u (List.mem_cons_of_mem _ mu))
/-- sorted of such a set -/
theorem sorted_txts {Q : Value → Shared → Prop} (quietH : A.handled = none) (R : SetX w s.heap d S m) (few : m < 64)
    (done : ∀ (z : Shared) (r : Addr) (out : Array Value) (c : Nat) (xs : List Str), (∀ b o, s.heap.get? b = some o → z.heap.get? b = some o) → z.gens = s.gens → z.os = s.os → s.heap.objs.size ≤ r → z.heap.get? r = some (seqObj "list" out c) →
      StrsAre out.toList xs → sortedS xs = true → xs.Nodup → (∀ x, x ∈ xs ↔ S x = true) → xs.length = m → Q (.ref r) z) :
    wpAny (model P w) A (call (.builtin "sorted") [.ref d]) Q E s := by
  obtain ⟨ob, el, pos, tab, f1, f2, f3, f4, f5, f6, f7, f8, f9, f10, f11⟩ := R
  refine Calls.call_function_entry kind_sorted plain_sorted entry_sorted (args_sorted1 _) ?_
  unfold Builtin.«sorted»
  refine wpAny_bind (m := checkCount "sorted" 1 1 _) (wpAny_pure (wpAny_bind (collect_set (A := A.in1) quietH ⟨ob, f1, f2.1, f3⟩ f8 f7 f10 f11 fun z1 got keep grew gens os perm => ?_)))
  have len : got.length = m := by rw [perm.length_eq, List.length_map, Array.length_toList]; exact f9
  have same : got.Perm (el.toList.map (·.2)) := perm
  have shape : ∀ v ∈ got, ∃ x tk, v = Value.str x tk := fun v mv => by
    obtain ⟨z, mz, e⟩ := List.mem_map.mp (same.mem_iff.mp mv)
    obtain ⟨x, tk, e2⟩ := f4 z mz
    exact ⟨x, tk, by rw [← e, e2]⟩
  have are := strs_of_vals shape
  have pt : (got.map fun v => match v with | .str x _ => x | _ => Str.empty).Perm (el.toList.map txt) := by
    have q := same.map fun v : Value => match v with | .str x _ => x | _ => Str.empty
    rw [List.map_map] at q
    exact q
  refine wpAny_bind (wpAny_newList ?_ (by rw [len, sizeLine_eq]; omega))
  have at0 : (z1.heap.push (seqObj "list" got.toArray 0)).get? z1.heap.objs.size = some (seqObj "list" got.toArray 0) := Heap.get?_push_size _ rfl
  refine wpAny_bind (wpAny_holding (wpAny_call_entry slot_list_sort ⟨_, at0, rfl⟩ entry_list_sort (list_sort_treeK strKind_oneLt at0 are.keysOf (fun v1 v2 rest e => keyKind_strs (by rw [← e]; exact are)) (by rw [len]; exact few) fun st a1 a2 => ⟨_, rfl, ?_⟩) (args_list_sort _)))
  obtain ⟨xs, b1, b2, b3⟩ := sorted_out_str are a1 a2
  obtain ⟨c, hc⟩ := sortedHeap_at (vs := got) (out := (arrOf st).map (·.2)) at0
  have px : xs.Perm (el.toList.map txt) := b2.trans pt
  refine wpAny_pure ⟨_, rfl, done _ z1.heap.objs.size _ c xs (fun b o e => ?_) gens os grew hc b1 b3 (px.nodup_iff.mpr f5) (fun x => by rw [px.mem_iff, f6 x]) ?_⟩
  · have q := keep b o e
    have lt := Heap.lt_size q
    refine (sortedHeap_old (Nat.ne_of_lt lt) (by rw [size_push']; exact Nat.lt_succ_of_lt lt)).trans ?_
    exact Heap.get?_push_of_some _ q
  · rw [px.length_eq, List.length_map, Array.length_toList]
    exact f9
end
/-! ### as tracked things -/
def SetXO (w : World) (d : Addr) (S : Str → Bool) (m : Nat) : HO := .ext fun h => SetX w h d S m
theorem setX_new {w : World} {P : Program} {H : Hp} {h : Heap} {d : Addr} {S : Str → Bool} {m : Nat} (R : SetX w h d S m) : ObjOk P w H h d (SetXO w d S m) := by
  have ⟨ob, _, _, _, f1, _⟩ := R
  exact ⟨R, ⟨ob, f1⟩, fun h1 h2 ⟨o2, a2, b2, c2, g1, r⟩ keep => ⟨o2, a2, b2, c2, keep o2 g1, r⟩⟩
section
variable {X : Cx}
theorem setX_at {pins : List (Addr × Obj)} {σ : L2.St} {H : Hp} {s : Shared} {d : Addr} {S : Str → Bool} {m : Nat} (I : Inv X pins σ H s) (hd : H d = some (SetXO X.w d S m)) : SetX X.w s.heap d S m := (I.hok d _ hd).1
theorem addX_ok {pins : List (Addr × Obj)} {σ : L2.St} {H : Hp} {s : Shared} {E : Value → Shared → Prop} {d : Addr} {S : Str → Bool} {m : Nat} {x : Str} {tk : Tok} {Q : Value → Shared → Prop} (I : Inv X pins σ H s) (hd : H d = some (SetXO X.w d S m)) (room : m + 1 < scanBound)
    (done : ∀ z, Inv X pins σ (upd H d (SetXO X.w d (fun y => S y || decide (y = x)) (if S x = true then m else m + 1))) z → Q .none z) : wpAny (model X.prog X.w) X.A (call (.builtin "set.add") [.ref d, .str x tk]) Q E s := by
  refine add_call (setX_at I hd) room fun g sb r => ?_
  have ⟨ob, _, _, _, f1, _⟩ := id r
  exact done _ (I.write (e := d) (t' := s.toks + 1) (by rw [hd]; trivial) (.inl rfl) (fun b u nb e => (sb.2 b nb).trans e) ⟨ob, f1⟩ (setX_new r))
/-- sorted(texts), fewer than 64 -/
def rSortedX (w : World) : List V → Hp → VK → Prop := fun vs H Q => ∃ (d : Addr) (S : Str → Bool) (m : Nat), vs = [V.ref d] ∧ H d = some (SetXO w d S m) ∧ m < 64 ∧
  ∀ (xs : List Str) (r : Addr), sortedS xs = true → xs.Nodup → (∀ x, x ∈ xs ↔ S x = true) → xs.length = m → H r = none → Q (.ref r) (upd H r (.lst (xs.map V.str)))
theorem cr_sortedX (calm : X.calm = true) : CallR X (.builtin "sorted") (rSortedX X.w) := by
  intro pins s σ H vs us Q I rv ⟨d, S, m, e, hd, few, q⟩
  subst e
  rw [Vals.ref1 rv]
  refine sorted_txts (I.ok.hd calm) (setX_at I hd) few fun z r out c xs keep gens os new at0 are up nd mem len => ?_
  have free : H r = none := I.hok.fresh new
  have small : (xs.map V.str).length ≤ sizeLine := by rw [List.length_map, len, sizeLine_eq]; omega
  have J : Inv X pins σ (upd H r (.lst (xs.map V.str))) z :=
    I.call' (ch := []) os (Un.laid keep new free) (I.hok.laid keep new ⟨small, out.toList, c, vals_of_strs are, at0⟩) (by rw [gens]; exact I.bare) (fun _ y => nomatch y)
  exact ⟨.ref r, _, J, rfl, q xs r up nd mem len free⟩
end
end TxtSet

namespace TxtSet
open PySem PySem.Spec PyProof.Rows L2
/-! ### the comprehension of texts -/
section
variable {X : Cx}
/-- one step of what a set of texts becomes -/
def grow (S : Str → Bool) (x : Str) : Str → Bool := fun y => S y || decide (y = x)
def grown (S : Str → Bool) (m : Nat) (x : Str) : Nat := if S x = true then m else m + 1
def tScX (w : World) (wi : TI) (g : TG) (tt : TT) (te : TE) (vs : List Nat) : TE := fun σ H Q => wi σ H fun J H1 => ∀ D, H1 D = none → ∃ W : Nat → Nat → Hp → Prop, (∃ n, W 0 n (upd H1 D (SetXO w D (fun _ => false) 0))) ∧ ∀ i n G, W i n G →
  (J.stop i G ∧ Q (.ref D) G) ∨ (J.go i G ∧ ∃ Nx : Hp → Prop, (∀ G', Nx G' → ∃ n', n' < n ∧ W (i + 1) n' G') ∧ ∀ v G', J.yld i G v G' → g v (wipe σ vs) G' fun τ G2 => wipe τ vs = wipe σ vs ∧ tt τ G2 fun b G3 =>
    if b = true then te τ G3 fun y G4 => ∃ (x : Str) (S : Str → Bool) (m : Nat), y = .str x ∧ G4 D = some (SetXO w D S m) ∧ m + 1 < scanBound ∧ Nx (upd G4 D (SetXO w D (grow S x) (grown S m x))) else Nx G3)
/-- over a list that the block leaves as it is -/
theorem scX_list {w : World} {K : PySem.W.Frag} {a : Addr} {xs : List V} {g : TG} {tt : TT} {te : TE} {vs : List Nat} {σ : L2.St} {H1 : Hp} {D : Addr} {Qd : Hp → Prop} (Pv : Nat → Hp → Prop) (h0 : Pv 0 (upd H1 D (SetXO w D (fun _ => false) 0))) (hl : ∀ i G, i ≤ xs.length → Pv i G → SqL K G a xs)
    (hs : ∀ i v G, xs[i]? = some v → Pv i G → g v (wipe σ vs) G fun τ G2 => wipe τ vs = wipe σ vs ∧ tt τ G2 fun b G3 =>
      if b = true then te τ G3 fun y G4 => ∃ (x : Str) (S : Str → Bool) (m : Nat), y = .str x ∧ G4 D = some (SetXO w D S m) ∧ m + 1 < scanBound ∧ Pv (i + 1) (upd G4 D (SetXO w D (grow S x) (grown S m x))) else Pv (i + 1) G3) (hd : ∀ G, Pv xs.length G → Qd G) :
    ∃ W : Nat → Nat → Hp → Prop, (∃ n, W 0 n (upd H1 D (SetXO w D (fun _ => false) 0))) ∧ ∀ i n G, W i n G →
      ((Itl K a).stop i G ∧ Qd G) ∨ ((Itl K a).go i G ∧ ∃ Nx : Hp → Prop, (∀ G', Nx G' → ∃ n', n' < n ∧ W (i + 1) n' G') ∧ ∀ v G', (Itl K a).yld i G v G' → g v (wipe σ vs) G' fun τ G2 => wipe τ vs = wipe σ vs ∧ tt τ G2 fun b G3 =>
        if b = true then te τ G3 fun y G4 => ∃ (x : Str) (S : Str → Bool) (m : Nat), y = .str x ∧ G4 D = some (SetXO w D S m) ∧ m + 1 < scanBound ∧ Nx (upd G4 D (SetXO w D (grow S x) (grown S m x))) else Nx G3) := by
  refine ⟨fun i n G => n + i = xs.length ∧ Pv i G, ⟨xs.length, by omega, h0⟩, fun i n G ⟨e, p⟩ => ?_⟩
  have q := hl i G (by omega) p
  rcases Nat.eq_zero_or_pos n with z | z
  · have ei : i = xs.length := by omega
    subst ei
    exact .inl ⟨⟨xs, q, Nat.le_refl _⟩, hd G p⟩
  · have lt : i < xs.length := by omega
    refine .inr ⟨⟨xs, xs[i], q, by simp [lt]⟩, Pv (i + 1), fun G' p' => ⟨n - 1, by omega, by omega, p'⟩, fun v G' y => ?_⟩
    obtain ⟨eG, y⟩ := y
    subst eG
    exact hs i v _ (y xs q) p
open PpSet in
theorem scX_core {pins : List (Addr × Obj)} {s : Shared} {σ : L2.St} {H : Hp} {Q : VK} {elt tg iter : Expr} {ifs : List Expr} {scope : Scope} {own : List (PySem.Str × Nat)} {pos pos' : Pos} {wi : TI} {g : TG} {tt : TT} {te : TE} {use : Option (Value → Sem Unit)} {Qf : Value → Shared → Prop}
    (calm : X.calm = true) (nod : X.N.Nodup) (I : Inv X pins σ H s) (pit : PI X tg iter wi) (blk : BlkOk X.N X.env.scope scope own)
    (pgs : ∀ (z : Shared) (G : Hp) (C : Addr) (cl : List (PySem.Str × Addr)) (fs : List Addr), PG (X.blk z G scope (compEnvC scope cl C X.env) fs) tg g) (pts : ∀ (z : Shared) (G : Hp) (C : Addr) (cl : List (PySem.Str × Addr)) (fs : List Addr), PTs (X.blk z G scope (compEnvC scope cl C X.env) fs) ifs tt)
    (pes : ∀ (z : Shared) (G : Hp) (C : Addr) (cl : List (PySem.Str × Addr)) (fs : List Addr), PE (X.blk z G scope (compEnvC scope cl C X.env) fs) elt te) (plain : ∀ x, foldedSetIterable iter X.env x = pure x)
    (h : tScX X.w wi g tt te (own.map (·.2)) σ H Q)
    (post : ∀ D C z mg G, Inv X pins σ G z → Q (.ref D) G → z.heap.Ns C mg → FpOk X pins G C → compPost (model X.prog X.w) X.A X.xe use Qf (.ref D) C (.ok .next) z) :
    wpAny (model X.prog X.w) X.A (comprehension (.SetComp elt [⟨tg, iter, ifs, 0⟩] scope pos) scope X.env pos' (newSet (.type "set")) false (eval iter X.env) use) Qf X.xe s := by
  have cells : ∀ y ∈ scope.names, y.2 = .free → ∃ c, X.env.cells.lookup y.1 = some c := fun y my e =>
    (blk.free y my e).elim (fun o => I.ok.has _ (.inl o)) fun o => I.ok.has _ (.inr o)
  refine wpAny_comprehension_free (use := use) rfl plain (closure_ok cells) blk.kind (fun y my e => by rw [blk.uniq y my, e])
    (thn (pit.run pins s σ H _ I h) fun _ _ o1 => thn o1 fun _ z2 o2 => ?_)
  obtain ⟨it, fs, walk, J, H2, e, I2, T, at2, free2, q⟩ := o2
  subst e
  refine newSet_ok (newEnv_comp ?_)
  obtain ⟨D, eD⟩ : ∃ D, D = z2.heap.objs.size := ⟨_, rfl⟩
  obtain ⟨W, ⟨n0, w0⟩, turn⟩ := q D (I2.hok.fresh (Nat.le_of_eq eD.symm))
  obtain ⟨z3, e3⟩ : ∃ z3 : Shared, z3 = { z2 with heap := z2.heap.push { cls := .type "set", dict := none, data := .set #[] 0 (.fresh 0 0 (!X.w.params.followText "set-order")) } } := ⟨_, rfl⟩
  obtain ⟨H3, eH3⟩ : ∃ H3 : Hp, H3 = upd H2 D (SetXO X.w D (fun _ => false) 0) := ⟨_, rfl⟩
  have hp3 : z3.heap = z2.heap.push { cls := .type "set", dict := none, data := .set #[] 0 (.fresh 0 0 (!X.w.params.followText "set-order")) } := by rw [e3]
  have I3 : Inv X pins σ H3 z3 := by
    rw [e3, eH3]
    refine I2.laid (t' := z2.toks) (fun b o k => Heap.get?_push_of_some _ k) (Nat.le_of_eq eD.symm) ?_
    rw [eD]
    exact setX_new (fresh_set X.w)
  rw [← eH3] at w0
  rw [← e3, ← eD]
  have free3 : ∀ b ∈ fs, FpOk X pins H3 b ∧ b < z3.heap.objs.size := fun b mb => by
    obtain ⟨o, k, _⟩ := T.obj _ _ at2 b mb
    have lt := Heap.lt_size k
    refine ⟨⟨?_, (free2 b mb).2⟩, by rw [hp3, Heap.size_push]; exact Nat.lt_succ_of_lt lt⟩
    rw [eH3, upd_ne (by rw [eD]; exact Nat.ne_of_lt lt)]
    exact (free2 b mb).1
  have B4 := block_start I3 blk nod free3
  have gP := pgs z3 H3 z3.heap.objs.size (cellsFrom (z3.heap.objs.size + 1) scope.names (cloFrom X.env.cells scope.names [])) fs
  have tP := pts z3 H3 z3.heap.objs.size (cellsFrom (z3.heap.objs.size + 1) scope.names (cloFrom X.env.cells scope.names [])) fs
  have eP := pes z3 H3 z3.heap.objs.size (cellsFrom (z3.heap.objs.size + 1) scope.names (cloFrom X.env.cells scope.names [])) fs
  show codeAny _ _ (.compStart (.SetComp elt [⟨tg, iter, ifs, 0⟩] scope pos) 0 (.ref it) (.ref D) (compEnvC scope (cellsFrom (z3.heap.objs.size + 1) scope.names (cloFrom X.env.cells scope.names [])) z3.heap.objs.size X.env)) (compPost (model X.prog X.w) X.A X.xe use Qf (.ref D) z3.heap.objs.size) { z3 with heap := pushCells (z3.heap.push { cls := .type "dict", data := .dict #[] }) scope.names }
  obtain ⟨z4, e4⟩ : ∃ z4 : Shared, z4 = { z3 with heap := pushCells (z3.heap.push { cls := .type "dict", data := .dict #[] }) scope.names } := ⟨_, rfl⟩
  rw [← e4] at B4 ⊢
  have at4 : walk 0 z4.heap := T.keep _ _ _ at2 fun b _ o k => by
    rw [e4]
    refine pushCells_keeps _ _ _ _ (Heap.get?_push_of_some _ ?_)
    rw [hp3]
    exact Heap.get?_push_of_some _ k
  have loc : (compEnvC scope (cellsFrom (z3.heap.objs.size + 1) scope.names (cloFrom X.env.cells scope.names [])) z3.heap.objs.size X.env).locals = z3.heap.objs.size := rfl
  generalize compEnvC scope (cellsFrom (z3.heap.objs.size + 1) scope.names (cloFrom X.env.cells scope.names [])) z3.heap.objs.size X.env = ce at B4 gP tP eP loc ⊢
  have still : ∀ {τ : L2.St} {G : Hp} {z : Shared}, Inv (X.blk z3 H3 scope ce fs) [] τ G z → (∀ b ∈ fs, G b = none) → ∀ b ∈ fs, FpOk (X.blk z3 H3 scope ce fs) [] G b := fun J' none b mb =>
    ⟨none b mb, (J'.ok.exf b mb).1, J'.ok.exfs b mb, .inl mb, fun x c k => (J'.ok.exf b mb).2 x c k, fun p mp => absurd (show p ∈ ([] : List (Addr × Obj)) ++ [] from mp) (by simp)⟩
  have loop : codeAny (model X.prog X.w) X.A (.compLoop (.SetComp elt [⟨tg, iter, ifs, 0⟩] scope pos) 0 (.ref it) (.ref D) ce) (compPost (model X.prog X.w) X.A X.xe use Qf (.ref D) z3.heap.objs.size) z4 := by
    refine compLoopS_any (fun n z => ∃ i G, Inv (X.blk z3 H3 scope ce fs) [] (wipe σ (own.map (·.2))) G z ∧ walk i z.heap ∧ (∀ b ∈ fs, G b = none) ∧ W i n G) ?_ n0 ⟨0, H3, B4, at4, fun b mb => (free3 b mb).1.1, w0⟩
    rintro n z5 ⟨i, G5, J5, at5, none5, w5⟩
    rcases turn i n G5 w5 with ⟨stop, qq⟩ | ⟨go, Nx, less, step⟩
    · refine thnF (T.done (X.blk z3 H3 scope ce fs) rfl rfl rfl calm i [] z5 _ G5 (fun _ _ => False) J5 (still J5 none5) at5 stop) fun r z6 ⟨er, J6⟩ => ?_
      subst er
      have back : Inv X pins σ G5 z6 := I3.call' (ch := fs) J6.os J6.base J6.hok J6.bare fun b mb => ⟨(free3 b mb).1.2.2.2.1, (free3 b mb).1.2.1, (free3 b mb).1.2.2.2.2.1, (free3 b mb).1.2.2.2.2.2⟩
      have gone : G5 z3.heap.objs.size = none := loc ▸ (J6.free : G5 ce.locals = none)
      obtain ⟨mg, ns, _⟩ := J6.loc
      have ns' : z6.heap.Ns ce.locals mg := ns
      rw [loc] at ns'
      exact post D z3.heap.objs.size z6 mg G5 back qq ns' (I3.fpOk (Nat.le_refl _) gone)
    · refine thnF (T.item (X.blk z3 H3 scope ce fs) rfl rfl rfl calm i [] z5 _ G5 (fun _ _ => False) J5 (still J5 none5) at5 go) fun r z6 ⟨u, er, o6⟩ => ?_
      subst er
      refine thnF o6 fun _ z7 ⟨v, G7, J7, rv, y7, at7, none7⟩ => ?_
      refine thnF (gP.run _ z7 _ G7 v u _ (J7.pinned (still J7 none7) (T.obj _ _ at7)) rv (step v G7 y7)) fun _ z8 ⟨τ, G8, J8, eqw, q8⟩ => ?_
      refine thnF (tP.run _ z8 τ G8 _ J8 q8) fun b z9 ⟨G9, J9, q9⟩ => ?_
      have again : ∀ {z : Shared} {G : Hp}, Inv (X.blk z3 H3 scope ce fs) ([] ++ pinsAt fs z7.heap) τ G z → Nx G → ∃ n', n' < n ∧ ∃ i G, Inv (X.blk z3 H3 scope ce fs) [] (wipe σ (own.map (·.2))) G z ∧ walk i z.heap ∧ (∀ b ∈ fs, G b = none) ∧ W i n' G := fun {z G} J' nx => by
        obtain ⟨n', lt, w'⟩ := less G nx
        have pinned : ∀ b ∈ fs, ∀ o, z7.heap.get? b = some o → z.heap.get? b = some o ∧ G b = none := fun b mb o k =>
          ⟨(J'.pin (b, o) (List.mem_append_right _ (List.mem_append_right _ (mem_pinsAt mb k)))).1, (J'.pin (b, o) (List.mem_append_right _ (List.mem_append_right _ (mem_pinsAt mb k)))).2.1⟩
        refine ⟨n', lt, i + 1, G, (J'.unpinned (pins := [])).weak (by rw [← eqw, wipe_length]) (fun j w k => ?_), T.keep _ _ _ at7 fun b mb o k => (pinned b mb o k).1, fun b mb => ?_, w'⟩
        · rw [← eqw] at k
          exact (wipe_some k).1
        · obtain ⟨o, k, _⟩ := T.obj _ _ at7 b mb
          exact (pinned b mb o k).2
      cases b with
      | false =>
        simp only [Bool.false_eq_true, if_false] at q9 ⊢
        exact again J9 q9
      | true =>
        simp only [if_true] at q9 ⊢
        refine thnF (eP.run _ z9 τ G9 _ J9 q9) fun u z10 ⟨yv, G10, J10, r10, x, S0, m0, ey, at10, room, nx⟩ => ?_
        subst ey
        obtain ⟨tk, rfl⟩ := r10
        exact addX_ok (X := X.blk z3 H3 scope ce fs) J10 at10 room fun z11 J11 => again J11 nx
  exact codeAny_compStart_set loop (T.self X.A 0 _ _ _ at4 loop)
/-- the comprehension as a value -/
theorem pe_scX {elt tg iter : Expr} {ifs : List Expr} {scope : Scope} {own : List (PySem.Str × Nat)} {pos : Pos} {wi : TI} {g : TG} {tt : TT} {te : TE} (calm : X.calm = true) (nod : X.N.Nodup) (pit : PI X tg iter wi) (blk : BlkOk X.N X.env.scope scope own)
    (pgs : ∀ (z : Shared) (G : Hp) (C : Addr) (cl : List (PySem.Str × Addr)) (fs : List Addr), PG (X.blk z G scope (compEnvC scope cl C X.env) fs) tg g) (pts : ∀ (z : Shared) (G : Hp) (C : Addr) (cl : List (PySem.Str × Addr)) (fs : List Addr), PTs (X.blk z G scope (compEnvC scope cl C X.env) fs) ifs tt)
    (pes : ∀ (z : Shared) (G : Hp) (C : Addr) (cl : List (PySem.Str × Addr)) (fs : List Addr), PE (X.blk z G scope (compEnvC scope cl C X.env) fs) elt te) (plain : ∀ x, foldedSetIterable iter X.env x = pure x := by intro _; rfl) :
    PE X (.SetComp elt [⟨tg, iter, ifs, 0⟩] scope pos) (tScX X.w wi g tt te (own.map (·.2))) := by
  refine ⟨fun pins s σ H Q I h => ?_⟩
  rw [PpSet.eval_SetComp]
  refine scX_core calm nod I pit blk pgs pts pes plain h fun D C z mg G J q ns f => ⟨mg, ns, fun _ sb => ?_⟩
  have ⟨u0, u1, _, u3, u4, u5⟩ := f
  exact ⟨.ref D, G, J.turned (t' := z.toks) (fun b _ nb e => (sb.2 b nb).trans e) u0 u1 u3 u4 u5, rfl, q⟩
end
end TxtSet

namespace K50
open PySem PySem.Spec PyProof.Rows L2
def top (i : Nat) : Stmt := PySem.Challenge.pw_desksagree_k50_whole_disks_that_are_cut.main.body.getD i (.Pass ⟨0, 0, 0, 0⟩)
abbrev s_is_number : Stmt := top 6
abbrev s_Disk___init__ : Stmt := inClass (top 9) 0
abbrev s_Disk_names : Stmt := inClass (top 9) 1
abbrev s_Disk_has : Stmt := inClass (top 9) 2
abbrev s_Disk__file : Stmt := inClass (top 9) 3
abbrev s_Disk_read : Stmt := inClass (top 9) 4
abbrev s_Disk_size : Stmt := inClass (top 9) 5
abbrev s_Disk_sure : Stmt := inClass (top 9) 6
abbrev s_Disk_make : Stmt := inClass (top 9) 7
abbrev s_Disk__change : Stmt := inClass (top 9) 8
abbrev s_Disk_write : Stmt := inClass (top 9) 9
abbrev s_Disk_sync : Stmt := inClass (top 9) 10
abbrev s_Disk_sync_names : Stmt := inClass (top 9) 11
abbrev s_Disk_move : Stmt := inClass (top 9) 12
abbrev s_Disk_remove : Stmt := inClass (top 9) 13
abbrev s_Disk_cut : Stmt := inClass (top 9) 14
abbrev s_Disk_late_changes : Stmt := inClass (top 9) 15
abbrev s_Disk_late_size : Stmt := inClass (top 9) 16
abbrev s_Disk_late_files : Stmt := inClass (top 9) 17
abbrev s_Disk_copy : Stmt := inClass (top 9) 18
abbrev s_Disk_cut_off : Stmt := inClass (top 9) 19
abbrev s_applied : Stmt := top 10
abbrev s_checked_tears : Stmt := top 11
abbrev s_nothing_lost : Stmt := top 12
abbrev s_all_lost : Stmt := top 13
abbrev s_alike : Stmt := top 14
abbrev s__law_same : Stmt := top 16
abbrev s__law_pool : Stmt := top 17
abbrev s__law_draw : Stmt := top 18
abbrev s__law_pick : Stmt := top 19
abbrev s__law_refusal : Stmt := top 20
abbrev s__law_names_after : Stmt := top 21
abbrev s__law_do : Stmt := top 22
abbrev s__law_plain : Stmt := top 23
abbrev s__law_stands : Stmt := top 24
abbrev s__law_found_right : Stmt := top 25
abbrev s__law_cut : Stmt := top 26
abbrev s_law : Stmt := top 27
structure Blt (mg : Str → Option Value) : Prop where
  b_len : mg "len" = none
  b_isinstance : mg "isinstance" = none
  b_str : mg "str" = none
  b_int : mg "int" = none
  b_list : mg "list" = none
  b_tuple : mg "tuple" = none
  b_bool : mg "bool" = none
  b_range : mg "range" = none
  b_abs : mg "abs" = none
  b_sorted : mg "sorted" = none
  b_dict : mg "dict" = none
  b_ValueError : mg "ValueError" = none
abbrev tl (x : Str) : List Nat := x.cps.toList
abbrev mkS (l : List Nat) : Str := ⟨l.toArray⟩
theorem mkS_tl (x : Str) : mkS (tl x) = x := by cases x; rfl
theorem tl_mkS (l : List Nat) : tl (mkS l) = l := rfl
theorem len_tl (x : Str) : x.length = (tl x).length := by simp [Str.length, tl]
theorem cut_nat (x : Str) (a b : Nat) (h : b ≤ (tl x).length) : cutS x (some (a : Int)) (some (b : Int)) = mkS (((tl x).drop a).take (b - a)) := by
  have hn : x.length = (tl x).length := len_tl x
  have e1 : HT.sIx x.length 0 (some (a : Int)) = min a x.length := by
    show (if ((a : Int)) < 0 then ((a : Int) + (x.length : Int)).toNat else min ((a : Int)).toNat x.length) = _
    rw [if_neg (by omega)]; rfl
  have e2 : HT.sIx x.length x.length (some (b : Int)) = b := by
    show (if ((b : Int)) < 0 then ((b : Int) + (x.length : Int)).toNat else min ((b : Int)).toNat x.length) = _
    rw [if_neg (by omega)]
    show min b x.length = b
    omega
  show (⟨((x.cps.toList.drop (HT.sIx x.length 0 (some (a : Int)))).take (HT.sIx x.length x.length (some (b : Int)) - HT.sIx x.length 0 (some (a : Int)))).toArray⟩ : Str) = _
  rw [e1, e2]
  by_cases ha : a ≤ x.length
  · rw [Nat.min_eq_left ha]
  · have z : (tl x).length ≤ a := by omega
    have e3 : ((tl x).drop a).take (b - a) = [] := by rw [List.drop_eq_nil_of_le z, List.take_nil]
    have e4 : (x.cps.toList.drop (min a x.length)).take (b - min a x.length) = [] := by
      rw [List.drop_eq_nil_of_le (by show (tl x).length ≤ _; omega), List.take_nil]
    rw [e3, e4]
theorem cut_any (x : Str) (a b : Nat) : cutS x (some (a : Int)) (some (b : Int)) = mkS (((tl x).drop a).take (b - a)) := by
  by_cases h : b ≤ (tl x).length
  · exact cut_nat x a b h
  · have hn : x.length = (tl x).length := len_tl x
    have e1 : HT.sIx x.length 0 (some (a : Int)) = min a x.length := by
      show (if ((a : Int)) < 0 then ((a : Int) + (x.length : Int)).toNat else min ((a : Int)).toNat x.length) = _
      rw [if_neg (by omega)]; rfl
    have e2 : HT.sIx x.length x.length (some (b : Int)) = x.length := by
      show (if ((b : Int)) < 0 then ((b : Int) + (x.length : Int)).toNat else min ((b : Int)).toNat x.length) = _
      rw [if_neg (by omega)]
      show min b x.length = x.length
      omega
    show (⟨((x.cps.toList.drop (HT.sIx x.length 0 (some (a : Int)))).take (HT.sIx x.length x.length (some (b : Int)) - HT.sIx x.length 0 (some (a : Int)))).toArray⟩ : Str) = _
    rw [e1, e2]
    by_cases ha : a ≤ x.length
    · rw [Nat.min_eq_left ha]
      show mkS (((tl x).drop a).take (x.length - a)) = _
      have hd : ((tl x).drop a).length = (tl x).length - a := List.length_drop
      rw [List.take_of_length_le (by omega), List.take_of_length_le (by omega)]
    · have z : (tl x).length ≤ a := by omega
      have e3 : ((tl x).drop a).take (b - a) = [] := by rw [List.drop_eq_nil_of_le z, List.take_nil]
      have e4 : (x.cps.toList.drop (min a x.length)).take (x.length - min a x.length) = [] := by
        rw [List.drop_eq_nil_of_le (by show (tl x).length ≤ _; omega), List.take_nil]
      rw [e3, e4]
def upto (c : Nat) (l : List Nat) : List Nat := l.takeWhile fun d => decide (d ≠ c)
theorem upto_le (c : Nat) (l : List Nat) : (upto c l).length ≤ l.length := by
  induction l with
  | nil => exact Nat.le_refl _
  | cons d r ih =>
    unfold upto at ih ⊢
    rw [List.takeWhile_cons]
    split
    · simpa using ih
    · simp
theorem upto_take (c : Nat) (l : List Nat) : l.take (upto c l).length = upto c l := by
  induction l with
  | nil => rfl
  | cons d r ih =>
    unfold upto at ih ⊢
    rw [List.takeWhile_cons]
    split
    · simp only [List.length_cons, List.take_succ_cons]; rw [ih]
    · rfl
theorem occ_full (s sub : Str) (hi : Nat) : ∀ (l : List Nat) (st : Array Nat × Nat), 1 ≤ st.fst.size → (forIn l st (StrLaws.occBody s sub hi 1)).run = st
  | [], st, h => rfl
  | a :: l, st, h => by
    rw [List.forIn_cons]
    unfold StrLaws.occBody
    rw [if_neg (fun z => by have := z.1.1.1; omega)]
    exact occ_full s sub hi l st h
theorem occ_run (x : Str) (c : Nat) : ∀ (n a f : Nat), a + n = x.length + 1 → f ≤ a →
    (forIn (List.range' a n) ((#[] : Array Nat), f) (StrLaws.occBody x ⟨#[c]⟩ x.length 1)).run.fst.toList =
      if (upto c ((tl x).drop a)).length < ((tl x).drop a).length then [a + (upto c ((tl x).drop a)).length] else []
  | 0, a, f, h, hf => by
    have hx : x.length = (tl x).length := len_tl x
    have e : (tl x).drop a = [] := List.drop_eq_nil_of_le (by omega)
    rw [e]
    rfl
  | n + 1, a, f, h, hf => by
    have hx : x.length = (tl x).length := len_tl x
    rw [List.range'_succ, List.forIn_cons]
    have key := StrLaws.subAt_one x c a
    by_cases hc : (tl x)[a]? = some c
    · have z := key.mpr hc
      have hlt : a < (tl x).length := (List.getElem?_eq_some_iff.mp hc).1
      unfold StrLaws.occBody
      rw [if_pos ⟨⟨⟨by simp, hf⟩, z.1⟩, z.2⟩]
      show ((forIn (List.range' (a + 1) n) ((#[] : Array Nat).push a, a + (⟨#[c]⟩ : Str).length) (StrLaws.occBody x ⟨#[c]⟩ x.length 1)).run).fst.toList = _
      rw [occ_full _ _ _ _ _ (by simp)]
      have e : (tl x).drop a = c :: (tl x).drop (a + 1) := by
        rw [List.drop_eq_getElem_cons hlt]
        rw [(List.getElem?_eq_some_iff.mp hc).2]
      rw [e]
      unfold upto
      rw [List.takeWhile_cons, if_neg (show ¬ decide (c ≠ c) = true by simp)]
      simp
    · have hn : ¬ ((((((#[] : Array Nat), f) : Array Nat × Nat).fst.size < 1 ∧ (((#[] : Array Nat), f) : Array Nat × Nat).snd ≤ a) ∧ a + (⟨#[c]⟩ : Str).length ≤ x.length) ∧ Builtin.Str.subAt x ⟨#[c]⟩ a = true) := fun z => hc (key.mp ⟨z.1.2, z.2⟩)
      have e1 : StrLaws.occBody x ⟨#[c]⟩ x.length 1 a ((#[] : Array Nat), f) = pure (ForInStep.yield ((#[] : Array Nat), f)) := by
        unfold StrLaws.occBody
        rw [if_neg hn]
      rw [e1]
      show ((forIn (List.range' (a + 1) n) ((#[] : Array Nat), f) (StrLaws.occBody x ⟨#[c]⟩ x.length 1)).run).fst.toList = _
      rw [occ_run x c n (a + 1) f (by omega) (by omega)]
      by_cases hlt : a < (tl x).length
      · have e : (tl x).drop a = (tl x)[a] :: (tl x).drop (a + 1) := List.drop_eq_getElem_cons hlt
        have hd : (tl x)[a] ≠ c := fun z => hc (by rw [List.getElem?_eq_getElem hlt, z])
        have e2 : upto c ((tl x).drop a) = (tl x)[a] :: upto c ((tl x).drop (a + 1)) := by
          rw [e]
          unfold upto
          rw [List.takeWhile_cons, if_pos (by simpa using hd)]
        rw [e2, e]
        simp only [List.length_cons, Nat.add_lt_add_iff_right]
        split
        · congr 1; omega
        · rfl
      · have e : (tl x).drop a = [] := List.drop_eq_nil_of_le (by omega)
        have e3 : (tl x).drop (a + 1) = [] := List.drop_eq_nil_of_le (by omega)
        rw [e, e3]
        rfl
theorem find_one (x : Str) (c a : Nat) (ha : a ≤ (tl x).length) : Txt.find3 x ⟨#[c]⟩ (a : Int) = if (upto c ((tl x).drop a)).length < ((tl x).drop a).length then ((a + (upto c ((tl x).drop a)).length : Nat) : Int) else -1 := by
  have hx : x.length = (tl x).length := len_tl x
  have e0 : fromIndex x.length (a : Int) = a := by
    unfold fromIndex
    rw [if_neg (by omega)]
    omega
  unfold Txt.find3
  rw [e0, StrLaws.occ_eq, occ_run x c _ a a (by omega) (Nat.le_refl _)]
  by_cases h : (upto c ((tl x).drop a)).length < ((tl x).drop a).length
  · rw [if_pos h, if_pos h]
  · rw [if_neg h, if_neg h]
theorem lc_str {x : Str} {g : TG} {tt : TT} {te : TE} {vs : List Nat} {σ : L2.St} {H1 : Hp} {D : Addr} {Qd : Hp → Prop} (Pv : Nat → Hp → Prop) (h0 : Pv 0 (upd H1 D (.lst [])))
    (hs : ∀ i c H, (tl x)[i]? = some c → Pv i H → g (.str ⟨#[c]⟩) (wipe σ vs) H fun σ2 H2 => wipe σ2 vs = wipe σ vs ∧ tt σ2 H2 fun b H3 =>
      if b = true then te σ2 H3 fun y H4 => ∃ acc, H4 D = some (.lst acc) ∧ acc.length < sizeLine ∧ Pv (i + 1) (upd H4 D (.lst (acc ++ [y]))) else Pv (i + 1) H3) (hd : ∀ H, Pv (tl x).length H → Qd H) :
    ∃ W : Nat → Nat → Hp → Prop, (∃ m, W 0 m (upd H1 D (.lst []))) ∧ ∀ i m H, W i m H →
      ((Its x).stop i H ∧ Qd H) ∨ ((Its x).go i H ∧ ∃ Nx : Hp → Prop, (∀ H', Nx H' → ∃ m', m' < m ∧ W (i + 1) m' H') ∧ ∀ v H', (Its x).yld i H v H' → g v (wipe σ vs) H' fun σ2 H2 => wipe σ2 vs = wipe σ vs ∧ tt σ2 H2 fun b H3 =>
        if b = true then te σ2 H3 fun y H4 => ∃ acc, H4 D = some (.lst acc) ∧ acc.length < sizeLine ∧ Nx (upd H4 D (.lst (acc ++ [y]))) else Nx H3) := by
  have hx : x.cps.size = (tl x).length := by simp [tl]
  refine ⟨fun i m H => m = (tl x).length - i ∧ i ≤ (tl x).length ∧ Pv i H, ⟨(tl x).length, by simp, Nat.zero_le _, h0⟩, ?_⟩
  rintro i m H ⟨rfl, hi, p⟩
  by_cases hlt : i < (tl x).length
  · refine .inr ⟨(by show i < x.cps.size; omega), Pv (i + 1), fun H' p' => ⟨(tl x).length - (i + 1), by omega, rfl, hlt, p'⟩, fun v H' y => ?_⟩
    obtain ⟨e, c, hc, ev⟩ := y
    subst e
    subst ev
    exact hs i c _ (by rw [Array.getElem?_toList]; exact hc) p
  · have e : i = (tl x).length := by omega
    subst e
    exact .inl ⟨(by show x.cps.size ≤ _; omega), hd H p⟩
structure ErrT (K : PySem.W.Frag) (mg : Str → Option Value) (x : Str) (C : Addr) : Prop where
  gP : mg x = some (.ref C)
  xP : PySem.W.excIn K C [.type "ValueError", .type "Exception", .type "BaseException", .type "object"] "ValueError.__new__" = true
  kP : PySem.W.keepIn K (.ref C) = true
  bP : PySem.W.subIn K (.ref C) (.type "BaseException") = some true
  tP : PySem.W.typeIn K (.ref C) = some (.type "type")
theorem le1 (a b : Nat) : (!decide (([a] : List Nat) < [b])) = decide (b ≤ a) := by
  by_cases h : a < b
  · have e1 : ([a] : List Nat) < [b] := List.Lex.rel h
    rw [decide_eq_true e1, decide_eq_false (by omega)]; rfl
  · have e1 : ¬ ([a] : List Nat) < [b] := by
      intro z
      cases z with
      | cons z => cases z
      | rel z => exact h z
    rw [decide_eq_false e1, decide_eq_true (by omega)]; rfl
theorem take_snoc {α : Type} : ∀ {l : List α} {i : Nat} {x : α}, l[i]? = some x → l.take (i + 1) = l.take i ++ [x]
  | [], i, x, h => by simp at h
  | a :: l, 0, x, h => by
    have e : a = x := Option.some.inj h
    subst e
    rfl
  | a :: l, i + 1, x, h => by
    have ih := take_snoc (l := l) (i := i) (x := x) h
    show a :: l.take (i + 1) = a :: l.take i ++ [x]
    rw [ih]
    rfl
theorem one_eq (c d : Nat) : decide (V.str ⟨#[c]⟩ = V.str ⟨#[d]⟩) = decide (c = d) := by
  by_cases h : c = d
  · subst h; simp
  · rw [decide_eq_false h, decide_eq_false]
    intro e
    have := V.str.inj e
    simp at this
    exact h this
theorem sz1 {n : Nat} (h : n ≤ sizeLine) (m : Nat) (hm : m < n) : m < sizeLine := Nat.lt_of_lt_of_le hm h
theorem same_upd {H H1 : Hp} {p : Addr} {o : HO} (s : Same H H1) (hp : H1 p = none) : Same H (upd H1 p o) := fun b u e => by
  rw [upd_ne (ne_of_none (s b u e) hp)]
  exact s b u e
theorem inV_strs (s : Str) (L : List Str) : inV (V.str s) (L.map V.str) = L.any fun y => y == s := by
  unfold inV
  rw [List.any_map]
  rfl
theorem flat_strs (L : List Str) : (L.map V.str).all flatV = true := by
  rw [List.all_map]
  exact List.all_eq_true.mpr fun _ _ => rfl
theorem strs_at {L : List Str} {i : Nat} {y : V} (h : (L.map V.str)[i]? = some y) : ∃ s, L[i]? = some s ∧ y = V.str s := by
  rw [List.getElem?_map] at h
  cases e : L[i]? with
  | none => rw [e] at h; cases h
  | some s => rw [e] at h; exact ⟨s, rfl, (Option.some.inj h).symm⟩
theorem paired_imp {α β : Type} {R S : α → β → Prop} (h : ∀ a b, R a b → S a b) : ∀ {xs : List α} {ys : List β}, Paired R xs ys → Paired S xs ys
  | _, _, .nil => .nil
  | _, _, .cons r t => .cons (h _ _ r) (paired_imp h t)
theorem paired_snoc {α β : Type} {R : α → β → Prop} {a : α} {b : β} (h : R a b) : ∀ {xs : List α} {ys : List β}, Paired R xs ys → Paired R (xs ++ [a]) (ys ++ [b])
  | _, _, .nil => .cons h .nil
  | _, _, .cons r t => .cons r (paired_snoc h t)
theorem paired_at {α β : Type} {R : α → β → Prop} : ∀ {xs : List α} {ys : List β} {i : Nat} {x : α}, Paired R xs ys → xs[i]? = some x → ∃ y, ys[i]? = some y ∧ R x y
  | _, _, _, _, .nil, e => by simp at e
  | _, _, 0, _, .cons r _, e => by
    have := Option.some.inj e
    subst this
    exact ⟨_, rfl, r⟩
  | _, _, i + 1, _, .cons _ t, e => by
    obtain ⟨y, e1, e2⟩ := paired_at (i := i) t (by simpa using e)
    exact ⟨y, by simpa using e1, e2⟩
theorem paired_len {α β : Type} {R : α → β → Prop} : ∀ {xs : List α} {ys : List β}, Paired R xs ys → xs.length = ys.length
  | _, _, .nil => rfl
  | _, _, .cons _ t => by rw [List.length_cons, List.length_cons, paired_len t]
theorem upto_app {c : Nat} : ∀ {u rest : List Nat}, (∀ d ∈ u, d ≠ c) → upto c (u ++ c :: rest) = u
  | [], rest, _ => by
    unfold upto
    rw [List.nil_append, List.takeWhile_cons, if_neg (by simp)]
  | d :: u, rest, h => by
    have ih := upto_app (c := c) (u := u) (rest := rest) (fun e he => h e (List.mem_cons_of_mem _ he))
    unfold upto at ih ⊢
    rw [List.cons_append, List.takeWhile_cons, if_pos (by simpa using h d (List.mem_cons_self ..)), ih]
theorem upto_step {c : Nat} {l : List Nat} {n d : Nat} (h : l[n]? = some d) (hd : d ≠ c) (hp : n ≤ (upto c l).length) : n + 1 ≤ (upto c l).length := by
  induction l generalizing n with
  | nil => simp at h
  | cons e r ih =>
    unfold upto at ih hp ⊢
    rw [List.takeWhile_cons] at hp ⊢
    cases n with
    | zero =>
      have : e = d := by simpa using h
      subst this
      rw [if_pos (by simpa using hd)]
      simp
    | succ n =>
      by_cases he : decide (e ≠ c) = true
      · rw [if_pos he] at hp ⊢
        have := ih (n := n) (by simpa using h) (by simpa using hp)
        simpa using this
      · rw [if_neg he] at hp
        simp at hp
theorem upto_stop {c : Nat} {l : List Nat} {n : Nat} (hp : n ≤ (upto c l).length) (h : ∀ d, l[n]? = some d → d = c) : n = (upto c l).length := by
  induction l generalizing n with
  | nil => simp [upto] at hp ⊢; exact hp
  | cons e r ih =>
    unfold upto at ih hp ⊢
    rw [List.takeWhile_cons] at hp ⊢
    by_cases he : decide (e ≠ c) = true
    · rw [if_pos he] at hp ⊢
      cases n with
      | zero => exact absurd (h e rfl) (by simpa using he)
      | succ n =>
        have := ih (n := n) (by simpa using hp) (fun d hd => h d (by simpa using hd))
        simpa using this
    · rw [if_neg he] at hp ⊢
      simpa using hp
theorem upto_get {c : Nat} : ∀ {l : List Nat} {n d : Nat}, l[n]? = some d → n < (upto c l).length → (upto c l)[n]? = some d
  | [], n, d, h, _ => by simp at h
  | e :: r, n, d, h, hn => by
    unfold upto at hn ⊢
    rw [List.takeWhile_cons] at hn ⊢
    by_cases he : decide (e ≠ c) = true
    · rw [if_pos he] at hn ⊢
      cases n with
      | zero => exact h
      | succ n =>
        have := upto_get (c := c) (l := r) (n := n) (d := d) (by simpa using h) (by unfold upto; simpa using hn)
        unfold upto at this
        simpa using this
    · rw [if_neg he] at hn
      simp at hn
theorem sum_mem : ∀ {l : List Nat} {n : Nat}, n ∈ l → n ≤ l.sum
  | a :: l, n, h => by
    rw [List.sum_cons]
    rcases List.mem_cons.mp h with rfl | h
    · omega
    · have := sum_mem h
      omega
theorem pss_when {X : Cx} {st : List Stmt} {t : TS} {p : Prop} (h : p → PSs X st t) : PSs X st (fun D σ H => p ∧ t D σ H) := ⟨fun pins s σ H D I ⟨hp, ht⟩ => (h hp).run pins s σ H D I ht⟩
structure CatchT (K : PySem.W.Frag) (mg : Str → Option Value) (CD C : Addr) : Prop where
  gD : mg "DeskError" = some (.ref CD)
  exm : PySem.W.exmOne K (.ref C) (.ref CD) = some true
  ec : ExcC K C
  kC : PySem.W.kitOne K (.ref C) (.ref C) = some true
  kV : PySem.W.kitOne K (.ref C) (.type "ValueError") = some true
  b_VE : mg "ValueError" = none
theorem iteF' {b : Bool} {p q : Prop} (e : b = false) (h : q) : if b = true then p else q := by
  rw [e]; exact h
theorem app_len (s t : Str) : (s ++ t).length = s.length + t.length := by
  have e : tl (s ++ t) = tl s ++ tl t := TL.tl_append s t
  rw [len_tl, e, List.length_append, len_tl, len_tl]
theorem mem_strs {L : List Str} {v : V} (h : v ∈ L.map V.str) : ∃ s, s ∈ L ∧ v = V.str s := by
  obtain ⟨s, h1, h2⟩ := List.mem_map.mp h
  exact ⟨s, h1, h2.symm⟩
theorem mem_cut {xs : List V} {lo hi : Option Int} {v : V} (h : v ∈ cutV xs lo hi) : v ∈ xs := by
  unfold cutV at h
  exact List.mem_of_mem_drop (List.mem_of_mem_take h)
theorem cut_le (xs : List V) (lo hi : Option Int) : (cutV xs lo hi).length ≤ xs.length := by
  unfold cutV
  rw [List.length_take, List.length_drop]
  omega
theorem for_str {x : Str} {g : TG} {tb : TS} {D : Ends} {σ : L2.St} {H : Hp} (Pv : Nat → L2.St → Hp → Prop) (h0 : Pv 0 σ H)
    (hs : ∀ i c σ H, (tl x)[i]? = some c → Pv i σ H → g (.str ⟨#[c]⟩) σ H fun σ2 H2 => tb { D with nx := Pv (i + 1), ct := Pv (i + 1), bk := D.nx } σ2 H2) (hd : ∀ σ H, Pv (tl x).length σ H → D.nx σ H) :
    ∃ W : Nat → Nat → L2.St → Hp → Prop, (∃ m, W 0 m σ H) ∧ ∀ i m σ H, W i m σ H →
      ((Its x).stop i H ∧ D.nx σ H) ∨ ((Its x).go i H ∧ ∃ N : L2.St → Hp → Prop, (∀ σ' H', N σ' H' → ∃ m', m' < m ∧ W (i + 1) m' σ' H') ∧ ∀ v H', (Its x).yld i H v H' → g v σ H' fun σ2 H2 => tb { D with nx := N, ct := N, bk := D.nx } σ2 H2) := by
  have hx : x.cps.size = (tl x).length := by simp [tl]
  refine ⟨fun i m σ H => m = (tl x).length - i ∧ i ≤ (tl x).length ∧ Pv i σ H, ⟨(tl x).length, by simp, Nat.zero_le _, h0⟩, ?_⟩
  rintro i m σ H ⟨rfl, hi, p⟩
  by_cases hlt : i < (tl x).length
  · refine .inr ⟨(by show i < x.cps.size; omega), Pv (i + 1), fun σ' H' p' => ⟨(tl x).length - (i + 1), by omega, rfl, hlt, p'⟩, fun v H' y => ?_⟩
    obtain ⟨e, c, hc, ev⟩ := y
    subst e
    subst ev
    exact hs i c _ _ (by rw [Array.getElem?_toList]; exact hc) p
  · have e : i = (tl x).length := by omega
    subst e
    exact .inl ⟨(by show x.cps.size ≤ _; omega), hd σ H p⟩
theorem lc_filter {x : Str} {σ : L2.St} {H1 : Hp} {D : Addr} {j : Nat} {bad : Nat → Bool} {tt : TT} {Qd : Hp → Prop} (hx : x.length ≤ sizeLine) (hD : H1 D = none)
    (hw : ∀ v, wipe ((wipe σ [j]).set j (some v)) [j] = wipe σ [j]) (hg : ∀ v, ((wipe σ [j]).set j (some v))[j]? = some (some v))
    (ht : ∀ c H' (R : Bool → Hp → Prop), c ∈ tl x → R (bad c) H' → tt ((wipe σ [j]).set j (some (.str ⟨#[c]⟩))) H' R)
    (hd : ∀ H', Same H1 H' → H' D = some (.lst (((tl x).filter bad).map fun c => V.str ⟨#[c]⟩)) → Qd H') :
    ∃ W : Nat → Nat → Hp → Prop, (∃ m, W 0 m (upd H1 D (.lst []))) ∧ ∀ i m H, W i m H →
      ((Its x).stop i H ∧ Qd H) ∨ ((Its x).go i H ∧ ∃ Nx : Hp → Prop, (∀ H', Nx H' → ∃ m', m' < m ∧ W (i + 1) m' H') ∧ ∀ v H', (Its x).yld i H v H' → gName j v (wipe σ [j]) H' fun σ2 H2 => wipe σ2 [j] = wipe σ [j] ∧ tt σ2 H2 fun b H3 =>
        if b = true then tVar j σ2 H3 fun y H4 => ∃ acc, H4 D = some (.lst acc) ∧ acc.length < sizeLine ∧ Nx (upd H4 D (.lst (acc ++ [y]))) else Nx H3) := by
  have hl : x.length = (tl x).length := len_tl x
  refine lc_str (x := x) (fun i H' => H' D = some (.lst ((((tl x).take i).filter bad).map fun c => V.str ⟨#[c]⟩)) ∧ ∀ b, b ≠ D → H' b = H1 b) ⟨upd_same, fun b hb => upd_ne hb⟩ ?_ ?_
  · rintro i c H' hc ⟨h1, h2⟩
    have hi : i < (tl x).length := (List.getElem?_eq_some_iff.mp hc).1
    have et : (tl x).take (i + 1) = (tl x).take i ++ [c] := take_snoc hc
    refine ⟨hw _, ?_⟩
    refine ht c _ _ (List.mem_of_getElem? hc) ?_
    refine ite2 (fun hb => ?_) (fun hb => ?_)
    · refine ⟨_, hg _, _, h1, ?_, ?_, fun b hb => by rw [upd_ne hb]; exact h2 b hb⟩
      · have := List.length_filter_le bad ((tl x).take i)
        rw [List.length_map]
        rw [List.length_take] at this
        omega
      · rw [upd_same, et, List.filter_append, List.map_append]
        simp [hb]
    · refine ⟨?_, h2⟩
      rw [h1, et, List.filter_append, List.map_append]
      simp [hb]
  · rintro H' ⟨h1, h2⟩
    rw [List.take_length] at h1
    refine hd H' (fun b o e => ?_) h1
    have : b ≠ D := fun z => by rw [z, hD] at e; cases e
    rw [h2 b this]; exact e
theorem filt_empty {l : List Nat} {bad : Nat → Bool} : ((l.filter bad).map fun c => V.str ⟨#[c]⟩).isEmpty = l.all fun c => !bad c := by
  induction l with
  | nil => rfl
  | cons c r ih =>
    rw [List.filter_cons, List.all_cons]
    by_cases h : bad c = true
    · rw [if_pos h, h]; rfl
    · rw [if_neg h, ih]
      have : bad c = false := by simpa using h
      rw [this]; rfl
theorem fmod_nat (a b : Nat) : Int.fmod (a : Int) (b : Int) = ((a % b : Nat) : Int) := by
  rw [Int.fmod_eq_emod_of_nonneg _ (by omega)]; rfl
theorem log_small (n : Nat) (h : n ≤ 10000000) : ((n : Nat) : Int).natAbs.log2 < 1920 := by
  rw [Int.natAbs_natCast]
  by_cases h0 : n = 0
  · subst h0; decide
  · have := (Nat.log2_lt h0 (k := 1920)).mpr (by
      have : (10000000 : Nat) < 2 ^ 1920 := by decide +kernel
      omega)
    exact this
theorem num_len {n : Nat} (h : n ≤ 9999999) : (TL.numL n).length ≤ 7 := TL.numL_len (by decide) (by omega)
theorem iteT' {b : Bool} {p q : Prop} (e : b = true) (h : p) : if b = true then p else q := by
  rw [e]; exact h
theorem joinL_flat : ∀ L : List (List Nat), TL.joinL [] L = L.flatten
  | [] => rfl
  | [p] => by simp [TL.joinL]
  | p :: q :: r => by
    show p ++ ([] ++ TL.joinL [] (q :: r)) = _
    rw [joinL_flat (q :: r)]; simp
theorem join_flat (L : List (List Nat)) : Txt.join (Str.ofString "") (L.map mkS) = mkS L.flatten := by
  refine TL.ext_tl ?_
  rw [TL.join_eq, TL.tl_join, List.map_map]
  show TL.joinL [] (L.map fun l => tl (mkS l)) = L.flatten
  rw [List.map_id'' (f := fun l => tl (mkS l)) (fun _ => rfl), joinL_flat]
theorem sum_le {ys : List Str} {B : Nat} (h : ∀ y ∈ ys, y.length ≤ B) : (ys.map (·.length)).sum ≤ ys.length * B := by
  induction ys with
  | nil => exact Nat.zero_le _
  | cons y r ih =>
    have h1 := h y (List.mem_cons_self ..)
    have h2 := ih fun z hz => h z (List.mem_cons_of_mem _ hz)
    rw [List.map_cons, List.sum_cons, List.length_cons, Nat.add_mul]
    omega
theorem cut_pre (x : Str) (n : Nat) : cutS x none (some (n : Int)) = mkS ((tl x).take n) := by
  have e : cutS x none (some (n : Int)) = cutS x (some ((0 : Nat) : Int)) (some (n : Int)) := by
    have e1 : HT.sIx x.length 0 (some ((0 : Nat) : Int)) = 0 := by
      show (if (((0 : Nat) : Int)) < 0 then (((0 : Nat) : Int) + (x.length : Int)).toNat else min (((0 : Nat) : Int)).toNat x.length) = _
      rw [if_neg (by omega)]
      show min 0 x.length = 0
      omega
    unfold cutS
    rw [e1]
    rfl
  rw [e, cut_any, List.drop_zero, Nat.sub_zero]
theorem fit_cut {z : Str} {l u : Option Int} {n : Nat} (h : z.length ≤ n) : (cutS z l u).length ≤ n := Nat.le_trans (cutS_length z l u) h
theorem fit_app {s t : Str} {a b n : Nat} (h : s.length ≤ a) (g : t.length ≤ b) (k : a + b ≤ n) : (s ++ t).length ≤ n := by rw [app_len]; omega
theorem fit_add {s t : Str} {a b : Nat} (h : s.length ≤ a) (g : t.length ≤ b) (k : a + b ≤ 16777216) : s.length + t.length ≤ sizeLine := by rw [sizeLine_eq]; omega
theorem ne_self (x : V) : (!decide (x = x)) = false := by rw [decide_eq_true rfl]; rfl
theorem ite_val {c : Bool} {x y : V} {A B : VK → Prop} {Q : VK} {H : Hp} (hA : ∀ Q : VK, Q x H → A Q) (hB : ∀ Q : VK, Q y H → B Q) (h : Q (if c = true then x else y) H) : if c = true then A Q else B Q := by
  cases c
  · exact hB _ h
  · exact hA _ h
/-! ### steps: one lemma for each construct, by its head -/
section steps
variable {σ : L2.St} {H : Hp} {D : Ends}
theorem w_start {t : TS} {σ' : L2.St} (e : σ = σ') (h : t D σ' H) : t D σ H := by subst e; exact h
theorem w_seq {t u : TS} (h : t { D with nx := u D } σ H) : tSeq t u D σ H := h
theorem w_asg {te : TE} {g : TG} (h : te σ H fun x H1 => g x σ H1 D.nx) : tAsg te g D σ H := h
theorem w_drop {te : TE} (h : te σ H fun _ H1 => D.nx σ H1) : tDrop te D σ H := h
theorem w_ret {te : TE} (h : te σ H D.rt) : tRet te D σ H := h
theorem w_retN (h : D.rt .non H) : tRetN D σ H := h
theorem w_next (h : D.nx σ H) : tNext D σ H := h
theorem w_break (h : D.bk σ H) : tBreak D σ H := h
theorem w_cont (h : D.ct σ H) : tCont D σ H := h
theorem w_ifS {c : TT} {t u : TS} (h : c σ H fun b H1 => if b = true then t D σ H1 else u D σ H1) : tIfS c t u D σ H := h
theorem w_while {c : TT} {tb : TS} (h : ∃ W : Nat → L2.St → Hp → Prop, (∃ m, W m σ H) ∧ ∀ m σ H, W m σ H → c σ H fun b H1 => if b = true then ∃ N : L2.St → Hp → Prop, (∀ σ' H', N σ' H' → ∃ m', m' < m ∧ W m' σ' H') ∧ tb { D with nx := N, ct := N, bk := D.nx } σ H1 else D.nx σ H1) : tWhile c tb D σ H := h
theorem w_name {i : Nat} {v : V} {σ' : L2.St} {Q : L2.St → Hp → Prop} (e : σ.set i (some v) = σ') (h : Q σ' H) : gName i v σ H Q := by subst e; exact h
theorem w_sub {to ti : TE} {t : TSet} {v : V} {Q : L2.St → Hp → Prop} (h : to σ H fun o H1 => ti σ H1 fun i H2 => t o i v H2 fun H3 => Q σ H3) : gSub to ti t v σ H Q := h
theorem w_var {i : Nat} {v : V} {Q : VK} (h : σ[i]? = some (some v)) (k : Q v H) : tVar i σ H Q := ⟨v, h, k⟩
theorem w_c {v : V} {Q : VK} (k : Q v H) : tC v σ H Q := k
theorem w_op {r : R2} {ta tb : TE} {Q : VK} (h : ta σ H fun x H1 => tb σ H1 fun y H2 => r x y H2 Q) : tOp r ta tb σ H Q := h
theorem w_un {r : V → Hp → VK → Prop} {ta : TE} {Q : VK} (h : ta σ H fun x H1 => r x H1 Q) : tUn r ta σ H Q := h
theorem w_test {t : TE} {Q : Bool → Hp → Prop} (h : t σ H fun x H' => ∃ k, x = .bl k ∧ Q k H') : tTest t σ H Q := h
theorem w_B {t : TE} {Q : Bool → Hp → Prop} (h : t σ H fun x H1 => ∃ c, x = .bl c ∧ Q c H1) : tB t σ H Q := h
theorem w_yes {Q : Bool → Hp → Prop} (h : Q true H) : tYes σ H Q := h
theorem w_not {t : TT} {Q : Bool → Hp → Prop} (h : t σ H fun c H1 => Q (!c) H1) : tNot t σ H Q := h
theorem w_and {t u : TT} {Q : Bool → Hp → Prop} (h : t σ H fun c H1 => if c = true then u σ H1 Q else Q false H1) : tAnd t u σ H Q := h
theorem w_or {t u : TT} {Q : Bool → Hp → Prop} (h : t σ H fun c H1 => if c = true then Q true H1 else u σ H1 Q) : tOr t u σ H Q := h
theorem w_andV {ta tb : TE} {Q : VK} (h : ta σ H fun x H1 => ∃ c, x = .bl c ∧ if c = true then tb σ H1 Q else Q (.bl false) H1) : tAndV ta tb σ H Q := h
theorem w_orV {ta tb : TE} {Q : VK} (h : ta σ H fun x H1 => ∃ c, x = .bl c ∧ if c = true then Q (.bl true) H1 else tb σ H1 Q) : tOrV ta tb σ H Q := h
theorem w_notV {ta : TE} {Q : VK} (h : ta σ H fun x H1 => ∃ c, x = .bl c ∧ Q (.bl (!c)) H1) : tNotV ta σ H Q := h
theorem w_ifE {t : TT} {ta tb : TE} {Q : VK} (h : t σ H fun c H1 => if c = true then ta σ H1 Q else tb σ H1 Q) : tIf t ta tb σ H Q := h
theorem w_nil {Q : List V → Hp → Prop} (h : Q [] H) : tNil σ H Q := h
theorem w_cons {ta : TE} {tr : TA} {Q : List V → Hp → Prop} (h : ta σ H fun x H1 => tr σ H1 fun xs H2 => Q (x :: xs) H2) : tCons ta tr σ H Q := h
theorem w_call {sp : Sp} {dvs : List V} {E : XK} {t : TA} {Q : VK} (h : t σ H fun vs H1 => sp (vs ++ dvs) H1 Q E) : tCall sp dvs E t σ H Q := h
theorem w_callS {sp : Sp} {E : L2.St → XK} {t : TA} {Q : VK} (h : t σ H fun vs H1 => sp vs H1 Q (E σ)) : tCallS sp E t σ H Q := h
theorem w_cB {r : List V → Hp → VK → Prop} {t : TA} {Q : VK} (h : t σ H fun vs H1 => r vs H1 Q) : tCB r t σ H Q := h
theorem w_lst {t : TA} {Q : VK} (h : t σ H fun xs H1 => xs.length ≤ sizeLine ∧ ∀ p, H1 p = none → Q (.ref p) (upd H1 p (.lst xs))) : tLst t σ H Q := h
theorem w_tup {t : TA} {Q : VK} (h : t σ H fun xs H1 => xs.length ≤ sizeLine ∧ ∀ p, H1 p = none → Q (.ref p) (upd H1 p (.tup xs))) : tTup t σ H Q := h
theorem w_sl {r : V → Option Int → Option Int → Hp → VK → Prop} {te : TE} {tl th : TO} {Q : VK} (h : te σ H fun x H1 => tl σ H1 fun l H2 => th σ H2 fun u H3 => r x l u H3 Q) : tSl r te tl th σ H Q := h
theorem w_noPart {Q : Option Int → Hp → Prop} (h : Q none H) : tNoPart σ H Q := h
theorem w_part {t : TE} {Q : Option Int → Hp → Prop} (h : t σ H fun x H1 => ∃ i, x = .int i ∧ Q (some i) H1) : tPart t σ H Q := h
theorem w_bm {K : PySem.W.Frag} {T : String} {r : V → List V → Hp → VK → Prop} {to : TE} {t : TA} {Q : VK} (h : to σ H fun x H1 => tyV K T x H1 ∧ t σ H1 fun xs H2 => r x xs H2 Q) : tBM K T r to t σ H Q := h
theorem w_bm0 {K : PySem.W.Frag} {T : String} {r : V → List V → Hp → VK → Prop} {to : TE} {Q : VK} (h : to σ H fun x H1 => tyV K T x H1 ∧ r x [] H1 Q) : tBM0 K T r to σ H Q := h
theorem w_strTy {K : PySem.W.Frag} {s : Str} {P : Prop} (h : P) : tyV K "str" (.str s) H ∧ P := ⟨rfl, h⟩
theorem w_lstTy {K : PySem.W.Frag} {a : Addr} {xs : List V} {P : Prop} (e : H a = some (.lst xs)) (h : P) : tyV K "list" (.ref a) H ∧ P := ⟨.inl ⟨rfl, _, SqL.of e⟩, h⟩
theorem w_bl {b : Bool} {Q : Bool → Prop} (h : Q b) : ∃ k, V.bl b = V.bl k ∧ Q k := ⟨b, rfl, h⟩
theorem w_int1 {i : Int} {Q : Int → Prop} (h : Q i) : ∃ k, V.int i = V.int k ∧ Q k := ⟨i, rfl, h⟩
theorem w_str1 {i : Str} {Q : Str → Prop} (h : Q i) : ∃ k, V.str i = V.str k ∧ Q k := ⟨i, rfl, h⟩
theorem w_rI0 {g : Int → Int → V} {i j : Int} {Q : VK} (h : Q (g i j) H) : rI0 g (.int i) (.int j) H Q := ⟨i, j, rfl, rfl, h⟩
theorem w_rI {C : Int → Int → Prop} {g : Int → Int → V} {i j : Int} {Q : VK} (c : C i j) (h : Q (g i j) H) : rI C g (.int i) (.int j) H Q := ⟨i, j, rfl, rfl, c, h⟩
theorem w_rU {g : Int → V} {i : Int} {Q : VK} (h : Q (g i) H) : rU g (.int i) H Q := ⟨i, rfl, h⟩
theorem w_eqI {i j : Int} {Q : VK} (h : Q (.bl (decide (V.int i = V.int j))) H) : rEq (.int i) (.int j) H Q := ⟨rfl, h⟩
theorem w_eqS {i j : Str} {Q : VK} (h : Q (.bl (decide (V.str i = V.str j))) H) : rEq (.str i) (.str j) H Q := ⟨rfl, h⟩
theorem w_neI {i j : Int} {Q : VK} (h : Q (.bl (!decide (V.int i = V.int j))) H) : rNe (.int i) (.int j) H Q := ⟨rfl, h⟩
theorem w_neS {i j : Str} {Q : VK} (h : Q (.bl (!decide (V.str i = V.str j))) H) : rNe (.str i) (.str j) H Q := ⟨rfl, h⟩
theorem w_ixL {K : PySem.W.Frag} {p : Addr} {xs : List V} {i : Int} {v : V} {Q : VK} (h : H p = some (.lst xs)) (a : atI xs i = some v) (k : Q v H) : rIxL K (.ref p) (.int i) H Q := ⟨p, xs, i, v, rfl, rfl, SqL.of h, a, k⟩
theorem w_ixT {K : PySem.W.Frag} {p : Addr} {xs : List V} {i : Int} {v : V} {Q : VK} (h : H p = some (.tup xs)) (a : atI xs i = some v) (k : Q v H) : rIxT K (.ref p) (.int i) H Q := ⟨p, xs, i, v, rfl, rfl, SqT.of h, a, k⟩
theorem w_ixS {z : Str} {i : Int} {c : Nat} {Q : VK} (h : z.length ≤ sizeLine) (a : atI z.cps.toList i = some c) (k : Q (.str ⟨#[c]⟩) H) : rIxS (.str z) (.int i) H Q := ⟨z, i, c, rfl, rfl, h, a, k⟩
theorem w_slS {z : Str} {l u : Option Int} {Q : VK} (h : z.length ≤ sizeLine) (k : Q (.str (cutS z l u)) H) : rSlS (.str z) l u H Q := ⟨z, rfl, h, k⟩
theorem w_lenS {K : PySem.W.Frag} {z : Str} {R : Nat → Prop} (h : z.length ≤ sizeLine) (k : R z.length) : ∃ (x : V) (n : Nat), [V.str z] = [x] ∧ LenV K x H n ∧ R n := ⟨_, _, rfl, ⟨h, rfl⟩, k⟩
theorem w_lenL {K : PySem.W.Frag} {p : Addr} {xs : List V} {R : Nat → Prop} (h : H p = some (.lst xs)) (k : R xs.length) : ∃ (x : V) (n : Nat), [V.ref p] = [x] ∧ LenV K x H n ∧ R n := ⟨_, _, rfl, .inl ⟨_, SqL.of h, rfl⟩, k⟩
theorem w_lenT {K : PySem.W.Frag} {p : Addr} {xs : List V} {R : Nat → Prop} (h : H p = some (.tup xs)) (k : R xs.length) : ∃ (x : V) (n : Nat), [V.ref p] = [x] ∧ LenV K x H n ∧ R n := ⟨_, _, rfl, .inr ⟨_, SqT.of h, rfl⟩, k⟩
theorem w_append {p : Addr} {xs : List V} {y : V} {Q : VK} (h : H p = some (.lst xs)) (l : xs.length < sizeLine) (k : Q .non (upd H p (.lst (xs ++ [y])))) : rAppend (.ref p) [y] H Q := ⟨p, xs, y, rfl, rfl, h, l, k⟩
theorem w_addS {i j : Str} {R : Str → Str → Prop} (l : i.length + j.length ≤ sizeLine) (k : R i j) : ∃ x y, V.str i = V.str x ∧ V.str j = V.str y ∧ x.length + y.length ≤ sizeLine ∧ R x y := ⟨i, j, rfl, rfl, l, k⟩
theorem w_bl2 {a b : Bool} {Q : Bool → Bool → Prop} (k : Q a b) : ∃ x y, V.bl a = V.bl x ∧ V.bl b = V.bl y ∧ Q x y := ⟨a, b, rfl, rfl, k⟩
theorem w_isN {P : Prop} (k : P) : V.non = .non ∧ P := ⟨rfl, k⟩
theorem w_listOf {K : PySem.W.Frag} {p : Addr} {ys : List V} {R : List V → Prop} (h : H p = some (.lst ys)) (k : R ys) : ∃ p' ys', [V.ref p] = [.ref p'] ∧ (SqL K H p' ys' ∨ SqT K H p' ys') ∧ R ys' := ⟨p, ys, rfl, .inl (SqL.of h), k⟩
theorem w_strOf {i : Int} {R : Int → Prop} (l : i.natAbs.log2 < 1920) (k : R i) : ∃ j, [V.int i] = [.int j] ∧ j.natAbs.log2 < 1920 ∧ R j := ⟨i, rfl, l, k⟩
theorem w_iT {b : Bool} {p q : Prop} (e : b = true) (h : p) : if b = true then p else q := by rw [e]; exact h
theorem w_iF {b : Bool} {p q : Prop} (e : b = false) (h : q) : if b = true then p else q := by rw [e]; exact h
theorem same_at {H H' : Hp} (s : Same H H') {a : Addr} {o : HO} (h : H a = some o) : H' a = some o := s _ _ h
theorem upd_at {H : Hp} {a b : Addr} {o u : HO} (n : b ≠ a) (h : H b = some u) : upd H a o b = some u := by rw [upd_ne n]; exact h
theorem upd_atN {H : Hp} {a b : Addr} {o u : HO} (f : H a = none) (h : H b = some u) : upd H a o b = some u := by rw [upd_ne (ne_of_none h f)]; exact h
theorem same_new {H H1 : Hp} {p : Addr} {o : HO} (s : Same H H1) (hp : H1 p = none) : Same H (upd H1 p o) := fun b u e => by
  rw [upd_ne (ne_of_none (s b u e) hp)]
  exact s b u e
theorem w_for {wi : TI} {g : TG} {tb : TS} (h : wi σ H fun J H1 => ∃ W : Nat → Nat → L2.St → Hp → Prop, (∃ m, W 0 m σ H1) ∧ ∀ i m σ H, W i m σ H →
  (J.stop i H ∧ D.nx σ H) ∨ (J.go i H ∧ ∃ N : L2.St → Hp → Prop, (∀ σ' H', N σ' H' → ∃ m', m' < m ∧ W (i + 1) m' σ' H') ∧ ∀ x H', J.yld i H x H' → g x σ H' fun σ2 H2 => tb { D with nx := N, ct := N, bk := D.nx } σ2 H2)) : tFor wi g tb D σ H := h
theorem w_lc {wi : TI} {g : TG} {tt : TT} {te : TE} {vs : List Nat} {Q : VK} (h : wi σ H fun J H1 => ∀ D, H1 D = none → ∃ W : Nat → Nat → Hp → Prop, (∃ m, W 0 m (upd H1 D (.lst []))) ∧ ∀ i m H, W i m H →
  (J.stop i H ∧ Q (.ref D) H) ∨ (J.go i H ∧ ∃ Nx : Hp → Prop, (∀ H', Nx H' → ∃ m', m' < m ∧ W (i + 1) m' H') ∧ ∀ x H', J.yld i H x H' → g x (wipe σ vs) H' fun σ2 H2 => wipe σ2 vs = wipe σ vs ∧ tt σ2 H2 fun b H3 =>
    if b = true then te σ2 H3 fun y H4 => ∃ acc, H4 D = some (.lst acc) ∧ acc.length < sizeLine ∧ Nx (upd H4 D (.lst (acc ++ [y]))) else Nx H3)) : tLc wi g tt te vs σ H Q := h
theorem w_iRng1 {ta : TA} {R : L2.It → Hp → Prop} (h : ta σ H fun vs H1 => ∃ j : Int, vs = [.int j] ∧ -(2 ^ 62) ≤ j ∧ j < 2 ^ 62 ∧ R (Itr 0 j.toNat) H1) : iRng1 ta σ H R := h
theorem w_iRng2 {ta : TA} {R : L2.It → Hp → Prop} (h : ta σ H fun vs H1 => ∃ i j : Int, vs = [.int i, .int j] ∧ (-(2 ^ 62) ≤ i ∧ i < 2 ^ 62 ∧ -(2 ^ 62) ≤ j ∧ j < 2 ^ 62) ∧ R (Itr i (j - i).toNat) H1) : iRng2 ta σ H R := h
theorem w_rng1 {i : Int} {R : Int → Prop} (b1 : -(2 ^ 62) ≤ i) (b2 : i < 2 ^ 62) (h : R i) : ∃ j : Int, [V.int i] = [.int j] ∧ -(2 ^ 62) ≤ j ∧ j < 2 ^ 62 ∧ R j := ⟨_, rfl, b1, b2, h⟩
theorem w_iList {K : PySem.W.Frag} {tl : TE} {R : L2.It → Hp → Prop} (h : tl σ H fun x H1 => ∃ a, x = .ref a ∧ (∃ xs, SqL K H1 a xs) ∧ R (Itl K a) H1) : iList K tl σ H R := h
theorem w_iTup {K : PySem.W.Frag} {tl : TE} {R : L2.It → Hp → Prop} (h : tl σ H fun x H1 => ∃ a, x = .ref a ∧ (∃ xs, SqT K H1 a xs) ∧ R (Itt K a) H1) : iTup K tl σ H R := h
theorem w_iStr {te : TE} {R : L2.It → Hp → Prop} (h : te σ H fun v H1 => ∃ x, v = .str x ∧ R (Its x) H1) : iStr te σ H R := h
theorem w_wipe {σ' : L2.St} {vs : List Nat} {P : Prop} (e : wipe σ vs = wipe σ' vs) (h : P) : wipe σ vs = wipe σ' vs ∧ P := ⟨e, h⟩
theorem w_acc {D : Addr} {acc : List V} {R : List V → Prop} (h : H D = some (.lst acc)) (l : acc.length < sizeLine) (k : R acc) : ∃ acc, H D = some (.lst acc) ∧ acc.length < sizeLine ∧ R acc := ⟨acc, h, l, k⟩
theorem w_itl {K : PySem.W.Frag} {a : Addr} {xs : List V} {R : Addr → Prop} (h : H a = some (.lst xs)) (k : R a) : ∃ b, V.ref a = V.ref b ∧ (∃ xs, SqL K H b xs) ∧ R b := ⟨a, rfl, ⟨_, SqL.of h⟩, k⟩
theorem w_itt {K : PySem.W.Frag} {a : Addr} {xs : List V} {R : Addr → Prop} (h : H a = some (.tup xs)) (k : R a) : ∃ b, V.ref a = V.ref b ∧ (∃ xs, SqT K H b xs) ∧ R b := ⟨a, rfl, ⟨_, SqT.of h⟩, k⟩
theorem w_M1 {r : V → List V → Hp → VK → Prop} {to te : TE} {Q : VK} (h : to σ H fun x H1 => (∃ a, x = .str a) ∧ te σ H1 fun y H2 => r x [y] H2 Q) : tM1 r to te σ H Q := h
theorem w_M0 {r : V → List V → Hp → VK → Prop} {to : TE} {Q : VK} (h : to σ H fun x H1 => (∃ a, x = .str a) ∧ r x [] H1 Q) : tM0 r to σ H Q := h
theorem w_isS {s : Str} {P : Prop} (h : P) : (∃ a, V.str s = .str a) ∧ P := ⟨⟨s, rfl⟩, h⟩
theorem w_Fld {K : PySem.W.Frag} {ta : TE} {f : Str} {Q : VK} (h : ta σ H fun x H1 => ∃ a C dx fs v, x = .ref a ∧ H1 a = some (.ins C dx fs) ∧ Cls K C ∧ NoAttr K C f ∧ fs.lookup f = some v ∧ Q v H1) : tFld K ta f σ H Q := h
theorem w_fld1 {K : PySem.W.Frag} {a C dx : Addr} {f : Str} {fs : List (Str × V)} {v : V} {R : V → Prop} (h : H a = some (.ins C dx fs)) (c : Cls K C) (n : NoAttr K C f) (l : fs.lookup f = some v) (k : R v) : ∃ a' C' dx' fs' v', V.ref a = .ref a' ∧ H a' = some (.ins C' dx' fs') ∧ Cls K C' ∧ NoAttr K C' f ∧ fs'.lookup f = some v' ∧ R v' := ⟨a, C, dx, fs, v, rfl, h, c, n, l, k⟩
theorem w_sFld {K : PySem.W.Frag} {ta tv : TE} {f : Str} (h : tv σ H fun y H1 => ta σ H1 fun x H2 => ∃ a C dx fs, x = .ref a ∧ H2 a = some (.ins C dx fs) ∧ Cls K C ∧ NoAttr K C f ∧ fs.length < 1000 ∧ D.nx σ (upd H2 a (.ins C dx (putF f y fs)))) : sFld K ta tv f D σ H := h
theorem w_sfld1 {K : PySem.W.Frag} {a C dx : Addr} {f : Str} {fs : List (Str × V)} {R : Addr → Addr → Addr → List (Str × V) → Prop} (h : H a = some (.ins C dx fs)) (c : Cls K C) (n : NoAttr K C f) (l : fs.length < 1000) (k : R a C dx fs) : ∃ a' C' dx' fs', V.ref a = .ref a' ∧ H a' = some (.ins C' dx' fs') ∧ Cls K C' ∧ NoAttr K C' f ∧ fs'.length < 1000 ∧ R a' C' dx' fs' := ⟨a, C, dx, fs, rfl, h, c, n, l, k⟩
theorem w_dget {td ty : TE} {Q : VK} (h : td σ H fun x H1 => ty σ H1 fun y H2 => ∃ a v, x = .ref a ∧ DGet H2 a y (some v) ∧ Q v H2) : tDGet td ty σ H Q := h
theorem w_dgetS {a : Addr} {kvs : List (Key × V)} {x : Str} {v : V} {R : V → Prop} (h : H a = some (.dK kvs)) (e : valV kvs (Sum.inr x : Key) = some v) (k : R v) : ∃ a' v', V.ref a = .ref a' ∧ DGet H a' (.str x) (some v') ∧ R v' := ⟨a, v, rfl, e ▸ DGet.k (k := Sum.inr x) h, k⟩
theorem w_dgetI {a : Addr} {kvs : List (Key × V)} {x : Int} {v : V} {R : V → Prop} (h : H a = some (.dK kvs)) (e : valV kvs (Sum.inl x : Key) = some v) (k : R v) : ∃ a' v', V.ref a = .ref a' ∧ DGet H a' (.int x) (some v') ∧ R v' := ⟨a, v, rfl, e ▸ DGet.k (k := Sum.inl x) h, k⟩
theorem w_dIn {ty td : TE} {Q : VK} (h : ty σ H fun y H1 => td σ H1 fun x H2 => ∃ a o, x = .ref a ∧ DGet H2 a y o ∧ Q (.bl o.isSome) H2) : tDIn ty td σ H Q := h
theorem w_dNotIn {ty td : TE} {Q : VK} (h : ty σ H fun y H1 => td σ H1 fun x H2 => ∃ a o, x = .ref a ∧ DGet H2 a y o ∧ Q (.bl (!o.isSome)) H2) : tDNotIn ty td σ H Q := h
theorem w_dinS {a : Addr} {kvs : List (Key × V)} {x : Str} {R : Option V → Prop} (h : H a = some (.dK kvs)) (k : R (valV kvs (Sum.inr x : Key))) : ∃ a' o, V.ref a = .ref a' ∧ DGet H a' (.str x) o ∧ R o := ⟨a, _, rfl, DGet.k (k := Sum.inr x) h, k⟩
theorem w_sDPut {td ty tv : TE} (h : tv σ H fun v H1 => td σ H1 fun x H2 => ty σ H2 fun y H3 => ∃ a H4, x = .ref a ∧ DPut H3 a y v H4 ∧ D.nx σ H4) : sDPut td ty tv D σ H := h
theorem w_dputI {a : Addr} {kvs : List (Key × V)} {x : Int} {v : V} {R : Hp → Prop} (h : H a = some (.dK kvs)) (l : kvs.length < sizeLine) (k : R (upd H a (.dK (putK kvs (Sum.inl x : Key) v)))) : ∃ a' H', V.ref a = .ref a' ∧ DPut H a' (.int x) v H' ∧ R H' := ⟨a, _, rfl, DPut.k (k := Sum.inl x) h l, k⟩
theorem w_dputS {a : Addr} {kvs : List (Key × V)} {x : Str} {v : V} {R : Hp → Prop} (h : H a = some (.dK kvs)) (l : kvs.length < sizeLine) (k : R (upd H a (.dK (putK kvs (Sum.inr x : Key) v)))) : ∃ a' H', V.ref a = .ref a' ∧ DPut H a' (.str x) v H' ∧ R H' := ⟨a, _, rfl, DPut.k (k := Sum.inr x) h l, k⟩
theorem w_dnewK {Q : VK} (k : ∀ p, H p = none → Q (.ref p) (upd H p (.dK []))) : tDNewK σ H Q := k
theorem w_meth {C : Addr} {m : Str} {sp : Sp} {dvs : List V} {E : XK} {ta : TE} {t : TA} {Q : VK} (h : ta σ H fun x H1 => ∃ a dx fs, x = .ref a ∧ H1 a = some (.ins C dx fs) ∧ fs.lookup m = none ∧ t σ H1 fun vs H2 => sp (x :: (vs ++ dvs)) H2 Q E) : tMeth C m sp dvs E ta t σ H Q := h
theorem w_meth1 {a C dx : Addr} {m : Str} {fs : List (Str × V)} {P : Prop} (h : H a = some (.ins C dx fs)) (l : fs.lookup m = none) (k : P) : ∃ a' dx' fs', V.ref a = .ref a' ∧ H a' = some (.ins C dx' fs') ∧ fs'.lookup m = none ∧ P := ⟨a, dx, fs, rfl, h, l, k⟩
theorem w_make {C : Addr} {sp : Sp} {dvs : List V} {E : XK} {t : TA} {Q : VK} (h : t σ H fun vs H1 => ∀ x dx, H1 x = none → H1 dx = none → dx ≠ x → sp (.ref x :: (vs ++ dvs)) (upd (upd H1 dx (.own x)) x (.ins C dx [])) (fun v H2 => v = .non ∧ Q (.ref x) H2) E) : tMake C sp dvs E t σ H Q := h
end steps
theorem sc_is_number : FnScope ["value", "least", "most"] ["value", "least", "most"] (defScope s_is_number) := ⟨rfl, rfl, rfl, by decide +kernel, rfl, by decide +kernel, by decide +kernel⟩
theorem sc_Disk___init__ : FnScope ["self"] ["self"] (defScope s_Disk___init__) := ⟨rfl, rfl, rfl, by decide +kernel, rfl, by decide +kernel, by decide +kernel⟩
theorem sc_Disk_names : FnScope ["self"] ["self"] (defScope s_Disk_names) := ⟨rfl, rfl, rfl, by decide +kernel, rfl, by decide +kernel, by decide +kernel⟩
theorem sc_Disk_has : FnScope ["self", "name"] ["self", "name"] (defScope s_Disk_has) := ⟨rfl, rfl, rfl, by decide +kernel, rfl, by decide +kernel, by decide +kernel⟩
theorem sc_Disk__file : FnScope ["self", "name"] ["self", "name"] (defScope s_Disk__file) := ⟨rfl, rfl, rfl, by decide +kernel, rfl, by decide +kernel, by decide +kernel⟩
theorem sc_Disk_read : FnScope ["self", "name", "at"] ["self", "name"] (defScope s_Disk_read) := ⟨rfl, rfl, rfl, by decide +kernel, rfl, by decide +kernel, by decide +kernel⟩
theorem sc_Disk_size : FnScope ["self", "name"] ["self", "name"] (defScope s_Disk_size) := ⟨rfl, rfl, rfl, by decide +kernel, rfl, by decide +kernel, by decide +kernel⟩
theorem sc_Disk_sure : FnScope ["self", "name"] ["self", "name"] (defScope s_Disk_sure) := ⟨rfl, rfl, rfl, by decide +kernel, rfl, by decide +kernel, by decide +kernel⟩
theorem sc_Disk_make : FnScope ["self", "name"] ["self", "name"] (defScope s_Disk_make) := ⟨rfl, rfl, rfl, by decide +kernel, rfl, by decide +kernel, by decide +kernel⟩
theorem sc_Disk__change : FnScope ["self", "row"] ["self", "row"] (defScope s_Disk__change) := ⟨rfl, rfl, rfl, by decide +kernel, rfl, by decide +kernel, by decide +kernel⟩
theorem sc_Disk_write : FnScope ["self", "name", "text", "at"] ["self", "name", "text"] (defScope s_Disk_write) := ⟨rfl, rfl, rfl, by decide +kernel, rfl, by decide +kernel, by decide +kernel⟩
theorem sc_Disk_sync : FnScope ["self", "name", "at"] ["self", "name"] (defScope s_Disk_sync) := ⟨rfl, rfl, rfl, by decide +kernel, rfl, by decide +kernel, by decide +kernel⟩
theorem sc_Disk_sync_names : FnScope ["self"] ["self"] (defScope s_Disk_sync_names) := ⟨rfl, rfl, rfl, by decide +kernel, rfl, by decide +kernel, by decide +kernel⟩
theorem sc_Disk_move : FnScope ["self", "one", "other"] ["self", "one", "other"] (defScope s_Disk_move) := ⟨rfl, rfl, rfl, by decide +kernel, rfl, by decide +kernel, by decide +kernel⟩
theorem sc_Disk_remove : FnScope ["self", "name"] ["self", "name"] (defScope s_Disk_remove) := ⟨rfl, rfl, rfl, by decide +kernel, rfl, by decide +kernel, by decide +kernel⟩
theorem sc_Disk_cut : FnScope ["self", "name", "size", "at"] ["self", "name", "size"] (defScope s_Disk_cut) := ⟨rfl, rfl, rfl, by decide +kernel, rfl, by decide +kernel, by decide +kernel⟩
theorem sc_Disk_late_changes : FnScope ["self"] ["self"] (defScope s_Disk_late_changes) := ⟨rfl, rfl, rfl, by decide +kernel, rfl, by decide +kernel, by decide +kernel⟩
theorem sc_Disk_late_size : FnScope ["self", "name"] ["self", "name"] (defScope s_Disk_late_size) := ⟨rfl, rfl, rfl, by decide +kernel, rfl, by decide +kernel, by decide +kernel⟩
theorem sc_Disk_late_files : FnScope ["self", "name"] ["self"] (defScope s_Disk_late_files) := ⟨rfl, rfl, rfl, by decide +kernel, rfl, by decide +kernel, by decide +kernel⟩
theorem sc_Disk_copy : FnScope ["self", "other"] ["self"] (defScope s_Disk_copy) := ⟨rfl, rfl, rfl, by decide +kernel, rfl, by decide +kernel, by decide +kernel⟩
theorem sc_Disk_cut_off : FnScope ["self", "changes", "tears", "rows", "told", "name", "signs", "spoilt", "at", "part", "found"] ["self", "changes", "tears"] (defScope s_Disk_cut_off) := ⟨rfl, rfl, rfl, by decide +kernel, rfl, by decide +kernel, by decide +kernel⟩
theorem sc_applied : FnScope ["names", "changes", "found", "word", "one", "other"] ["names", "changes"] (defScope s_applied) := ⟨rfl, rfl, rfl, by decide +kernel, rfl, by decide +kernel, by decide +kernel⟩
theorem sc_checked_tears : FnScope ["disk", "changes", "tears", "row", "name", "signs", "spoilt"] ["disk", "changes", "tears"] (defScope s_checked_tears) := ⟨rfl, rfl, rfl, by decide +kernel, rfl, by decide +kernel, by decide +kernel⟩
theorem sc_nothing_lost : FnScope ["disk", "tears", "name"] ["disk"] (defScope s_nothing_lost) := ⟨rfl, rfl, rfl, by decide +kernel, rfl, by decide +kernel, by decide +kernel⟩
theorem sc_all_lost : FnScope ["disk"] ["disk"] (defScope s_all_lost) := ⟨rfl, rfl, rfl, by decide +kernel, rfl, by decide +kernel, by decide +kernel⟩
theorem sc_alike : FnScope ["one", "other", "name"] ["one", "other"] (defScope s_alike) := ⟨rfl, rfl, rfl, by decide +kernel, rfl, by decide +kernel, by decide +kernel⟩
theorem sc__law_same : FnScope ["actual", "due", "k"] ["actual", "due"] (defScope s__law_same) := ⟨rfl, rfl, rfl, by decide +kernel, rfl, by decide +kernel, by decide +kernel⟩
theorem sc__law_pool : FnScope ["script"] ["script"] (defScope s__law_pool) := ⟨rfl, rfl, rfl, by decide +kernel, rfl, by decide +kernel, by decide +kernel⟩
theorem sc__law_draw : FnScope ["pool", "many", "found", "cell", "mixed"] ["pool", "many"] (defScope s__law_draw) := ⟨rfl, rfl, rfl, by decide +kernel, rfl, by decide +kernel, by decide +kernel⟩
theorem sc__law_pick : FnScope ["pool", "rows"] ["pool", "rows"] (defScope s__law_pick) := ⟨rfl, rfl, rfl, by decide +kernel, rfl, by decide +kernel, by decide +kernel⟩
theorem sc__law_refusal : FnScope ["problem", "kinds", "found", "k"] ["problem"] (defScope s__law_refusal) := ⟨rfl, rfl, rfl, by decide +kernel, rfl, by decide +kernel, by decide +kernel⟩
theorem sc__law_names_after : FnScope ["names", "changes", "found", "word", "one", "other", "kept", "name"] ["names", "changes"] (defScope s__law_names_after) := ⟨rfl, rfl, rfl, by decide +kernel, rfl, by decide +kernel, by decide +kernel⟩
theorem sc__law_do : FnScope ["disk", "row", "problem"] ["disk", "row"] (defScope s__law_do) := ⟨rfl, rfl, rfl, by decide +kernel, rfl, by decide +kernel, by decide +kernel⟩
theorem sc__law_plain : FnScope ["here", "row", "names", "word", "told"] ["here", "row"] (defScope s__law_plain) := ⟨rfl, rfl, rfl, by decide +kernel, rfl, by decide +kernel, by decide +kernel⟩
theorem sc__law_stands : FnScope ["disk", "here", "names", "name", "sure", "late"] ["disk", "here"] (defScope s__law_stands) := ⟨rfl, rfl, rfl, by decide +kernel, rfl, by decide +kernel, by decide +kernel⟩
theorem sc__law_found_right : FnScope ["found", "here", "changes", "tears", "names", "late", "name", "signs", "spoilt", "due", "at", "part"] ["found", "here", "changes", "tears"] (defScope s__law_found_right) := ⟨rfl, rfl, rfl, by decide +kernel, rfl, by decide +kernel, by decide +kernel⟩
theorem sc__law_cut : FnScope ["disk", "changes", "tears", "problem"] ["disk", "changes", "tears"] (defScope s__law_cut) := ⟨rfl, rfl, rfl, by decide +kernel, rfl, by decide +kernel, by decide +kernel⟩
theorem sc_law : FnScope ["script", "pool", "disk", "here", "words", "k", "name", "other", "text", "made", "row", "due", "kept", "names", "changes", "tears", "signs", "found", "every", "wrong", "size"] ["script"] (defScope s_law) := ⟨rfl, rfl, rfl, by decide +kernel, rfl, by decide +kernel, by decide +kernel⟩
/-! ### a comprehension over range(..) where an exception is being handled -/
/-- one more number of a range's iterator; X may be handling something -/
theorem rgH_go {X : Cx} {ps : List (Addr × Obj)} {τ : L2.St} {G : Hp} {z : Shared} {tg : Expr} {j : Addr} {lo : Int} {n i : Nat} {E : Value → Shared → Prop} (J : Inv X ps τ G z) (fr : FpOk X ps G j)
    (at_ : IsRangeIter z.heap j (lo + (i : Nat) * 1) ((n : Int) - (i : Nat)) 1) (lt : i < n) :
    wpAny (model X.prog X.w) X.A (pyNext (.ref j)) (fun r z1 => ∃ u, r = some u ∧ wpAny (model X.prog X.w) X.A (letOwnedTupleGo tg (.ref j) u) (fun _ z2 =>
      Inv X ps τ G z2 ∧ RelV (.int (lo + i)) u ∧ IsRangeIter z2.heap j (lo + ((i + 1 : Nat) : Int) * 1) ((n : Int) - ((i + 1 : Nat) : Int)) 1) E z1) E z := by
  obtain ⟨q0, q1, _, q3, q4, q5⟩ := fr
  refine wpAny_pyNext_range_item at_ (by omega) fun g at2 same => ?_
  rw [show lo + ((i : Nat) : Int) * 1 + 1 = lo + ((i + 1 : Nat) : Int) * 1 by omega, show (n : Int) - ((i : Nat) : Int) - 1 = (n : Int) - ((i + 1 : Nat) : Int) by omega] at at2
  have J2 : Inv X ps τ G { z with heap := g, toks := z.toks + 1 } := J.turned (fun b o nb e => (same.2 b nb).trans e) q0 q1 q3 q4 q5
  refine ⟨_, rfl, ?_⟩
  refine go_of (n := "range_iterator") (s := { z with heap := g, toks := z.toks + 1 }) at2 rfl rfl (by decide) ⟨J2, ⟨z.toks, ?_⟩, at2⟩
  rw [Int.mul_one]
/-- no more of them -/
theorem rgH_end {X : Cx} {ps : List (Addr × Obj)} {τ : L2.St} {G : Hp} {z : Shared} {j x1 : Addr} {lo : Int} {n i : Nat} {E : Value → Shared → Prop} (J : Inv X ps τ G z) (fr : FpOk X ps G j) (hot : HotX.HotAt X.A x1 z.heap)
    (at_ : IsRangeIter z.heap j (lo + (i : Nat) * 1) ((n : Int) - (i : Nat)) 1) (ge : n ≤ i) :
    wpAny (model X.prog X.w) X.A (pyNext (.ref j)) (fun r z1 => r = none ∧ Inv X ps τ G z1) E z := by
  obtain ⟨q0, q1, _, q3, q4, q5⟩ := fr
  exact HotX.pyNext_range_end_hot hot at_ (by omega) fun g all => ⟨rfl, J.turned (t' := z.toks) (fun b o _ e => all b o e) q0 q1 q3 q4 q5⟩
/-- what is pinned outside stands within a comprehension's block, too -/
theorem inv_withPn {X : Cx} {ps : List (Addr × Obj)} {τ : L2.St} {G : Hp} {z : Shared} (J : Inv X ps τ G z) (pn : List (Addr × Obj)) (hp : ∀ p ∈ pn, z.heap.get? p.1 = some p.2 ∧ G p.1 = none ∧ p.1 ≠ X.env.locals ∧ p.1 ∉ X.fs ∧ ∀ v, p.2.data ≠ .cell v) : Inv { X with pn := pn } ps τ G z where
  ok := ⟨J.ok.mod, J.ok.kind, J.ok.glob, J.ok.blt, J.ok.above, J.ok.inj, J.ok.has, J.ok.cab, J.ok.hd, J.ok.frames, J.ok.stk, J.ok.exf, J.ok.bs, J.ok.bsz, J.ok.noex, J.ok.exfs, J.ok.funs, J.ok.frf⟩
  os := J.os
  bare := J.bare
  base := J.base
  loc := J.loc
  cell := J.cell
  free := J.free
  freeC := J.freeC
  pin := fun p m => (List.mem_append.mp m).elim (hp p) fun m2 => J.pin p (List.mem_append_right _ m2)
  hok := J.hok
  len := J.len
theorem inv_noPn {X : Cx} {ps pn : List (Addr × Obj)} {τ : L2.St} {G : Hp} {z : Shared} (J : Inv { X with pn := pn } ps τ G z) (h0 : X.pn = []) : Inv X ps τ G z where
  ok := ⟨J.ok.mod, J.ok.kind, J.ok.glob, J.ok.blt, J.ok.above, J.ok.inj, J.ok.has, J.ok.cab, J.ok.hd, J.ok.frames, J.ok.stk, J.ok.exf, J.ok.bs, J.ok.bsz, J.ok.noex, J.ok.exfs, J.ok.funs, J.ok.frf⟩
  os := J.os
  bare := J.bare
  base := J.base
  loc := J.loc
  cell := J.cell
  free := J.free
  freeC := J.freeC
  pin := fun p m => J.pin p (List.mem_append_right _ (by rw [h0] at m; exact m))
  hok := J.hok
  len := J.len
section
variable {X : Cx}
/-- [elt for tg in iter if ..] while something is handled: what lc_core tells where nothing is -/
theorem hot_core {ps : List (Addr × Obj)} {z : Shared} {τ : L2.St} {G : Hp} {Q : VK} {elt tg iter : Expr} {ifs : List Expr} {scope : Scope} {own : List (Str × Nat)} {pos pos' : Pos} {wi : TI} {g : TG} {tt : TT} {te : TE} {use : Option (Value → Sem Unit)} {Qf : Value → Shared → Prop}
    (hot : L2H.HotC X) (nd : X.N.Nodup) (J : Inv X ps τ G z) (hi : L2H.PIH X tg iter wi) (ok : BlkOk X.N X.env.scope scope own)
    (tgR : ∀ z G C cl fp, PG (X.blk z G scope (compEnvC scope cl C X.env) fp) tg g) (ifR : ∀ z G C cl fp, PTs (X.blk z G scope (compEnvC scope cl C X.env) fp) ifs tt)
    (elR : ∀ z G C cl fp, PE (X.blk z G scope (compEnvC scope cl C X.env) fp) elt te) (fold : ∀ x, foldedSetIterable iter X.env x = pure x) (rd : tLc wi g tt te (own.map (·.2)) τ G Q)
    (fin : ∀ D C z' m G', Inv X ps τ G' z' → Q (.ref D) G' → z'.heap.Ns C m → FpOk X ps G' C → compPost (model X.prog X.w) X.A X.xe use Qf (.ref D) C (.ok .next) z') :
    wpAny (model X.prog X.w) X.A (comprehension (.ListComp elt [⟨tg, iter, ifs, 0⟩] scope pos) scope X.env pos' (newList []) false (eval iter X.env) use) Qf X.xe z := by
  have clo := closure_ok (scope := scope) (env := X.env) fun y hy e => J.ok.has _ ((ok.free y hy e).imp id id)
  refine wpAny_comprehension_free (use := use) rfl fold clo ok.kind (fun y hy e => (ok.uniq y hy).trans (by rw [e])) ?_
  refine thn (hi.run ps z τ G _ J rd) fun _ z1 r1 => thn r1 fun _ z2 ⟨j, fp, tn, It0, G2, ej, J2, T, t2, free2, rd2⟩ => ?_
  subst ej
  refine wpAny_newObj_type (newEnv_comp ?_) (by show 0 ≤ sizeLine; decide)
  have newD : G2 z2.heap.objs.size = none := J2.hok.fresh (Nat.le_refl _)
  obtain ⟨W, ⟨m0, w0⟩, turn⟩ := rd2 _ newD
  -- the block's beginning
  obtain ⟨z3, ez3⟩ : ∃ z3 : Shared, z3 = { z2 with heap := z2.heap.push { cls := .type "list", data := .seq ([] : List Value).toArray } } := ⟨_, rfl⟩
  obtain ⟨G3, eG3⟩ : ∃ G3 : Hp, G3 = upd G2 z2.heap.objs.size (.lst []) := ⟨_, rfl⟩
  have grow : ∀ b o, z2.heap.get? b = some o → z3.heap.get? b = some o := fun b o e => by rw [ez3]; exact Heap.get?_push_of_some _ e
  have J3 : Inv X ps τ G3 z3 := by
    rw [ez3, eG3]
    exact J2.laid (t' := z2.toks) (fun b o e => Heap.get?_push_of_some _ e) (Nat.le_refl _) ⟨Nat.zero_le _, [], 0, .nil, Heap.get?_push_size _ rfl⟩
  have size3 : z3.heap.objs.size = z2.heap.objs.size + 1 := by rw [ez3]; exact Heap.size_push _ _
  have small : ∀ b ∈ fp, b < z2.heap.objs.size := fun b m => (T.obj _ _ t2 b m).elim fun _ e => Heap.lt_size e.1
  have free3 : ∀ b ∈ fp, FpOk X ps G3 b ∧ b < z3.heap.objs.size := fun b m => by
    have lt := small b m
    refine ⟨⟨?_, (free2 b m).2⟩, by rw [size3]; exact Nat.lt_succ_of_lt lt⟩
    rw [eG3, upd_ne (Nat.ne_of_lt lt)]
    exact (free2 b m).1
  have t3 : tn 0 z3.heap := T.keep _ _ _ t2 fun b _ o e => grow b o e
  have B0 := block_start J3 ok nd free3
  have tg1 := tgR z3 G3 z3.heap.objs.size (cellsFrom (z3.heap.objs.size + 1) scope.names (cloFrom X.env.cells scope.names [])) fp
  have if1 := ifR z3 G3 z3.heap.objs.size (cellsFrom (z3.heap.objs.size + 1) scope.names (cloFrom X.env.cells scope.names [])) fp
  have el1 := elR z3 G3 z3.heap.objs.size (cellsFrom (z3.heap.objs.size + 1) scope.names (cloFrom X.env.cells scope.names [])) fp
  rw [← eG3] at w0
  rw [show z2.heap.push { cls := .type "list", data := .seq ([] : List Value).toArray } = z3.heap by rw [ez3]]
  show codeAny _ _ (.compStart (.ListComp elt [⟨tg, iter, ifs, 0⟩] scope pos) 0 (.ref j) (.ref z2.heap.objs.size) (compEnvC scope (cellsFrom (z3.heap.objs.size + 1) scope.names (cloFrom X.env.cells scope.names [])) z3.heap.objs.size X.env)) (compPost (model X.prog X.w) X.A X.xe use Qf (.ref z2.heap.objs.size) z3.heap.objs.size) _
  rw [show ({ z2 with heap := pushCells (z3.heap.push { cls := .type "dict", data := .dict #[] }) scope.names } : Shared) = { z3 with heap := pushCells (z3.heap.push { cls := .type "dict", data := .dict #[] }) scope.names } by rw [ez3]]
  generalize hce : compEnvC scope (cellsFrom (z3.heap.objs.size + 1) scope.names (cloFrom X.env.cells scope.names [])) z3.heap.objs.size X.env = ce at B0 tg1 if1 el1 ⊢
  have ceL : ce.locals = z3.heap.objs.size := by rw [← hce]; rfl
  obtain ⟨z4, ez4⟩ : ∃ z4 : Shared, z4 = { z3 with heap := pushCells (z3.heap.push { cls := .type "dict", data := .dict #[] }) scope.names } := ⟨_, rfl⟩
  rw [← ez4] at B0 ⊢
  have t4 : tn 0 z4.heap := T.keep _ _ _ t3 fun b _ o e => by rw [ez4]; exact pushCells_keeps _ _ _ _ (Heap.get?_push_of_some _ e)
  -- what is pinned outside is pinned in the block
  have pinned : ∀ {τ' : L2.St} {G' : Hp} {z' : Shared}, Inv (X.blk z3 G3 scope ce fp) [] τ' G' z' → Inv { X.blk z3 G3 scope ce fp with pn := X.pn } [] τ' G' z' := fun {τ' G' z'} J' => inv_withPn J' X.pn fun p m => by
    obtain ⟨a1, a2, a3, a4, a5⟩ := J3.pin p (List.mem_append_left _ m)
    have nfs : p.1 ∉ frs X.stack := fun y => (List.mem_cons.mp (J3.stkSub p.1 y)).elim a3 a4
    have nfp : p.1 ∉ fp := fun y => (free3 p.1 y).1.2.2.2.2.2 p (List.mem_append_left _ m) rfl
    exact ⟨J'.base.keep _ _ a1 a2 nfs nfp, J'.base.free _ _ a1 a2 nfp, fun y => absurd (Heap.lt_size a1) (by rw [show p.1 = z3.heap.objs.size from y.trans ceL]; exact Nat.lt_irrefl _), nfs, a5⟩
  have hotB : L2H.HotC { X.blk z3 G3 scope ce fp with pn := X.pn } := hot
  have away : ∀ {τ' : L2.St} {G' : Hp} {z' : Shared}, Inv { X.blk z3 G3 scope ce fp with pn := X.pn } [] τ' G' z' → (∀ b ∈ fp, G' b = none) → ∀ b ∈ fp, FpOk { X.blk z3 G3 scope ce fp with pn := X.pn } [] G' b := fun {τ' G' z'} J' no b m =>
    ⟨no b m, (J'.ok.exf b m).1, J'.ok.exfs b m, .inl m, fun x c e => (J'.ok.exf b m).2 x c e, fun p y => (free3 b m).1.2.2.2.2.2 p (List.mem_append_left _ ((List.mem_append.mp y).elim id fun v => by cases v))⟩
  refine codeAny_compStart_list ?loop (T.self X.A 0 _ _ _ t4 ?loop)
  refine compLoop_any (fun n z' => ∃ i G', Inv (X.blk z3 G3 scope ce fp) [] (wipe τ (own.map (·.2))) G' z' ∧ tn i z'.heap ∧ (∀ b ∈ fp, G' b = none) ∧ W i n G') ?_ m0 ⟨0, G3, B0, t4, fun b m => (free3 b m).1.1, w0⟩
  rintro n z5 ⟨i, G5, J5, t5, no5, w5⟩
  have P5 := pinned J5
  rcases turn i n G5 w5 with ⟨stop, q⟩ | ⟨go, Nx, less, step⟩
  · refine thnF (T.done { X.blk z3 G3 scope ce fp with pn := X.pn } rfl rfl rfl hotB i [] z5 _ G5 (fun _ _ => False) P5 (away P5 no5) t5 stop) fun r z6 ⟨er, J6⟩ => ?_
    subst er
    have back : Inv X ps τ G5 z6 := J3.call' (ch := fp) J6.os J6.base J6.hok J6.bare fun b m => ⟨(free3 b m).1.2.2.2.1, (free3 b m).1.2.1, (free3 b m).1.2.2.2.2.1, (free3 b m).1.2.2.2.2.2⟩
    have noC : G5 z3.heap.objs.size = none := ceL ▸ J6.free
    obtain ⟨m, ns, _⟩ := J6.loc
    exact fin _ z3.heap.objs.size z6 m G5 back q (ceL ▸ ns) (J3.fpOk (Nat.le_refl _) noC)
  · refine thnF (T.item { X.blk z3 G3 scope ce fp with pn := X.pn } rfl rfl rfl hotB i [] z5 _ G5 (fun _ _ => False) P5 (away P5 no5) t5 go) fun r z6 ⟨u, er, h6⟩ => ?_
    subst er
    refine thnF h6 fun _ z7 ⟨x, G7, P7, r7, y7, t7, no7⟩ => ?_
    have J7 := (inv_noPn P7 rfl).pinned (fun b m => let a := away P7 no7 b m; ⟨a.1, a.2.1, a.2.2.1, a.2.2.2.1, a.2.2.2.2.1, fun p y => by cases y⟩) (T.obj _ _ t7)
    refine thnF (tg1.run _ z7 _ G7 x u _ J7 r7 (step x G7 y7)) fun _ z8 ⟨τ8, G8, J8, ew8, q8⟩ => thnF (if1.run _ z8 τ8 G8 _ J8 q8) fun b z9 ⟨G9, J9, q9⟩ => ?_
    have next : ∀ {z' : Shared} {G' : Hp}, Inv (X.blk z3 G3 scope ce fp) ([] ++ pinsAt fp z7.heap) τ8 G' z' → Nx G' → ∃ m, m < n ∧ ∃ i G', Inv (X.blk z3 G3 scope ce fp) [] (wipe τ (own.map (·.2))) G' z' ∧ tn i z'.heap ∧ (∀ b ∈ fp, G' b = none) ∧ W i m G' := fun {z' G'} J' nx => by
      obtain ⟨m', lt, w'⟩ := less G' nx
      have held : ∀ b ∈ fp, ∀ o, z7.heap.get? b = some o → z'.heap.get? b = some o ∧ G' b = none := fun b m o e =>
        ⟨(J'.pin (b, o) (List.mem_append_right _ (List.mem_append_right _ (mem_pinsAt m e)))).1, (J'.pin (b, o) (List.mem_append_right _ (List.mem_append_right _ (mem_pinsAt m e)))).2.1⟩
      refine ⟨m', lt, i + 1, G', (J'.unpinned (pins := [])).weak (by rw [← ew8, wipe_length]) (fun k v e => (wipe_some (ew8 ▸ e)).1), T.keep _ _ _ t7 fun b m o e => (held b m o e).1, fun b m => ?_, w'⟩
      exact (T.obj _ _ t7 b m).elim fun o e => (held b m o e.1).2
    cases b with
    | false => exact next J9 (by simpa using q9)
    | true =>
      have q9' : te τ8 G9 fun y H4 => ∃ acc, H4 z2.heap.objs.size = some (.lst acc) ∧ acc.length < sizeLine ∧ Nx (upd H4 z2.heap.objs.size (.lst (acc ++ [y]))) := by simpa using q9
      refine thnF (el1.run _ z9 τ8 G9 _ J9 q9') fun v z10 ⟨y, G10, J10, r10, acc, eD, sz, nx⟩ => ?_
      exact app_ok (X := X.blk z3 G3 scope ce fp) J10 eD sz r10 fun z11 J11 => next J11 nx
end
section
variable {X : Cx}
/-- y = [..] on one line, y a local, while something is handled -/
theorem ps_hotLc {i : Nat} {y : Str} {yp : Pos} {elt tg iter : Expr} {ifs : List Expr} {scope : Scope} {own : List (Str × Nat)} {pos spos : Pos} {wi : TI} {g : TG} {tt : TT} {te : TE} (hot : L2H.HotC X) (nd : X.N.Nodup) (at_ : X.N[i]? = some y) (loc : X.env.scope.names.lookup y = some .local)
    (sw : swapsWith (.ListComp elt [⟨tg, iter, ifs, 0⟩] scope pos) (some (.Name y yp)) spos.line X.env = pure true) (hi : L2H.PIH X tg iter wi) (ok : BlkOk X.N X.env.scope scope own)
    (tgR : ∀ z G C cl fp, PG (X.blk z G scope (compEnvC scope cl C X.env) fp) tg g) (ifR : ∀ z G C cl fp, PTs (X.blk z G scope (compEnvC scope cl C X.env) fp) ifs tt)
    (elR : ∀ z G C cl fp, PE (X.blk z G scope (compEnvC scope cl C X.env) fp) elt te) (fold : ∀ x, foldedSetIterable iter X.env x = pure x := by intro _; rfl) :
    PS X (.Assign [.Name y yp] (.ListComp elt [⟨tg, iter, ifs, 0⟩] scope pos) spos) (tAsg (tLc wi g tt te (own.map (·.2))) (gName i)) := ⟨fun ps z τ G D J rd => by
  rw [exec_Assign_Name_used _ _ _ _ sw]
  refine wpAny_bind (wpAny_standAt (wpAny_bind ?_))
  refine wpAny_bind (thn (hot_core (use := some (assign (.Name y yp) X.env)) (Qf := fun _ z' => SP X ps D .next z') (Q := fun x G1 => gName i x τ G1 D.nx) hot nd J hi ok tgR ifR elR fold rd fun L C z' m G' J' q ns free => ?_) fun _ z' e => wpAny_pure (wpAny_pure e))
  obtain ⟨c0, c1, _, c3, c4, c5⟩ := free
  refine wpAny_assign_Name (store_ok2 (v := V.ref L) J' nd at_ (.inl loc) rfl (fun z2 J2 st => ?_) (.inr loc))
  obtain ⟨b, same, where_⟩ := st
  have ne : C ≠ b := where_.elim (fun e => by rw [e]; exact c1) fun e k => c4 y b e k.symm
  exact ⟨m, ns.sameBut same ne, fun g3 s3 => ⟨_, G', J2.turned (t' := z2.toks) (fun b o nb e => (s3.2 b nb).trans e) c0 c1 c3 c4 c5, q⟩⟩⟩
end
/-! ### a def that an except suite hands its exception -/
/-- called with the exception that is being handled, of the class C, it gives r, and what stood stands -/
structure FnE (P : Program) (w : World) (K : PySem.W.Frag) (mg : Str → Option Value) (base : Heap) (C : Addr) (k : Nat) (f : Addr) (fd : FuncData) (ps : List Str) (r : V) : Prop where
  run : ∀ (A : Around) (outer : List Env) (z : Shared) (G : Hp) (args : Args) (us : List Value) (p : Addr × Obj) (Q : VK), L2H.RoomH k A → L2H.Hot1 A p → Zc (.ref C) none p.2 → L2H.PinOk outer G z p → Env0 P w K mg base A outer z G →
    BindsTo z fd args (ps.zip us) → Vals [V.ref p.1] us → (∀ G', Same G G' → Q r G') → codeAny (model P w) A (.call (.ref f) args) (CR CX0 outer P w G z Q E0) z
theorem fnE_of {P : Program} {w : World} {K : PySem.W.Frag} {mg : Str → Option Value} {base : Heap} {C : Addr} {k : Nat} {f : Addr} {x qual : Str} {st : Stmt} {fd : FuncData} {N ps : List Str} {r : V} (F : Fun K x qual st f fd) (S : FnScope N ps (defScope st)) (one : ps.length = 1)
    (rd : ∀ (cd : Value) (A : Around) (outer : List Env) (z : Shared) (G : Hp) (Q : VK) (p : Addr × Obj), L2H.Hot1 A p → Zc (.ref C) none p.2 → L2H.RoomH k (A.deeper (envOfC qual (defScope st) z.heap.objs.size f cd)) → (∀ G', Same G G' → Q r G') →
      ∃ t, PSs (L2H.cxH CX0 P w K mg base N qual (defScope st) f cd A outer z G E0 p) (defBody st) t ∧ t { nx := fun _ G' => Q .non G', rt := Q } (L2.start N [V.ref p.1]) G) :
    FnE P w K mg base C (k + 1) f fd ps r := by
  obtain ⟨oc, od, kV, doc, pm, an, cd, ct, sl, rfl, lk, hcd⟩ := F.ex
  refine ⟨fun A outer z G args us p Q room hot zc pin e0 bind vals q => ?_⟩
  have kz : K.In z.heap := e0.mod.kin.keeps fun b o e => (e0.bs b o e).1
  have nl : z.heap.NoLimit := e0.mod.nolimit.keeps fun b o e => (e0.bs b o e).1
  have kinds : ∀ y ∈ ps.zip us, (defScope st).names.lookup y.1 = some .local ∨ ((defScope st).names.lookup y.1 = some .cell ∧ ((cellsFrom (z.heap.objs.size + 1) (defScope st).names []).lookup y.1).isSome = true) :=
    fun y m => (S.par y.1 (List.of_mem_zip (show (y.1, y.2) ∈ ps.zip us from m)).1).imp id fun c => ⟨c, PySem.W.cellsFrom_some _ _ _ (.inl c)⟩
  refine codeAny_call_function room.depth (kz _ _ lk) rfl S.co S.gen rfl (PySem.W.codeRec_of kz hcd) (bind _ _ _ _ ?_)
  refine wpAny_newFunctionEnv_cells S.kind kinds fun env ee z1 ic => ?_
  subst ee
  obtain ⟨t, ht, hq⟩ := rd cd A outer z G Q p hot zc (room.deeper _) q
  have J := L2H.inv_startH (vs := [V.ref p.1]) (CX := CX0) (P := P) (w := w) (K := K) (mg := mg) (base := base) (E := E0) S pin e0 one.symm vals ic
  refine ⟨nl.keeps ic.toInCall.keep, codeAny_func (wpAny_mono (ht.run [] z1 _ G _ J hq) (fun fl z' e => ?_) fun _ _ e => e)⟩
  match fl, e with
  | .ret _, ⟨v, τ, G', J', rv, q'⟩ => exact ⟨v, G', J'.os, J'.bare, J'.base, J'.hok, rv, q'⟩
  | .next, ⟨τ, G', J', q'⟩ => exact ⟨.non, G', J'.os, J'.bare, J'.base, J'.hok, rfl, q'⟩
  | .brk, ⟨_, _, _, q'⟩ => exact q'.elim
  | .cont, ⟨_, _, _, q'⟩ => exact q'.elim
/-- f(problem) in the suite -/
theorem pe_handed {X : Cx} {C a : Addr} {oe : Obj} {pn : List (Addr × Obj)} {k i : Nat} {f : Addr} {fd : FuncData} {pp : Str} {r : V} {x y : Str} {p q pos : Pos} (F : FnE X.prog X.w X.K X.mg X.base C k f fd [pp] r) (room : L2H.RoomH k (X.suite a ((a, oe) :: pn)).A)
    (zc : Zc (.ref C) none oe) (hot : L2H.Hot1 (X.suite a ((a, oe) :: pn)).A (a, oe)) (hg : Gl X x) (hm : X.mg x = some (.ref f)) (hk : PySem.W.keepIn X.K (.ref f) = true) (hb : Binds X.K fd [pp] []) (hi : X.N[i]? = some y) (hv : Vis X.env.scope y)
    (hd : (x == ("__debug__" : Str)) = false := by decide) (hd2 : (y == ("__debug__" : Str)) = false := by decide) (hd3 : (y == ("__classdict__" : Str)) = false := by decide) :
    PE (X.suite a ((a, oe) :: pn)) (.Call (.Name x p) [.Name y q] [] pos) (fun σ H Q => σ[i]? = some (some (.ref a)) ∧ ∀ H', Same H H' → Q r H') := ⟨fun ps z τ G Q J rd => by
  have ha : PA (X.suite a ((a, oe) :: pn)) [.Name y q] (tCons (tVar i) tNil) := pa_cons (pe_var hi hv (hd := hd2) (hcd := hd3)) pa_nil
  refine wpAny_Call_Name_kw (ld_glob J hg hm ?_ hd)
  refine PySem.W.callWith_K (h₀ := X.base) J.ok.mod.kin hk (thn (ha.run pos ps z τ G (fun vs G' => vs = [V.ref a] ∧ G' = G) J ⟨_, rd.1, rfl, rfl⟩) fun us z1 ⟨vs, G1, J1, rv, e1, e2⟩ => ⟨J1.kIn, ?_⟩) rfl rfl
  subst e1 e2
  have bind := hb z1 us J1.kIn (by rw [List.append_nil]; exact rv.length.symm)
  rw [List.append_nil] at bind
  have P1 := J1.pin (a, oe) (List.mem_append_left _ (List.mem_cons_self ..))
  have pin : L2H.PinOk X.stack G1 z1 (a, oe) := ⟨P1.1, P1.2.1, fun m => (List.mem_cons.mp (J1.stkSub a m)).elim P1.2.2.1 P1.2.2.2.1, P1.2.2.2.2⟩
  refine wpAny_call (codeAny_mono (F.run _ X.stack z1 G1 ⟨us, []⟩ us (a, oe) Q room hot zc pin J1.env0 bind rv rd.2) fun res z2 e => ?_)
  match res, e with
  | .ok (.ret _), e => exact J1.after e
  | .ok .next, e => exact e.elim
  | .ok .brk, e => exact e.elim
  | .ok .cont, e => exact e.elim
  | .error _, e => exact e.elim⟩
/-- isinstance(e, c), e pinned: an exception of an own class -/
theorem call_isP {X : Cx} {a D : Addr} {oe : Obj} (ec : ExcC X.K D) (zc : Zc (.ref D) none oe) (flds : ∃ vs, oe.data = .fields vs) (m : (a, oe) ∈ X.pn) : CallR X (.builtin "isinstance") (rIsE X.K D a) := fun ps z τ G xs us Q J rv rd => by
  obtain ⟨c, cv, b, rfl, only, kit, q⟩ := rd
  match rv with
  | .cons ra (.cons rc .nil) =>
    obtain rfl := ra
    obtain rfl := only _ rc
    have there : z.heap.get? a = some oe := (J.pin (a, oe) (List.mem_append_left _ m)).1
    have inst : PySem.W.InstAt z.heap a oe D none := by
      obtain ⟨vs, ev⟩ := flds
      match oe, zc, ev with
      | ⟨_, _, _, _⟩, ⟨rfl, rfl⟩, rfl => exact ⟨there, rfl, rfl, trivial⟩
    exact PySem.W.kia_one (PySem.W.handS_kitx_exc ec.hg ec.hk ec.hs ec.hd ec.ha ec.hn ec.ht ec.hm) J.kIn inst kit (fun y => nomatch y) fun tk => ⟨.bl b, G, J.kept (t' := tk) fun _ _ y => y, rfl, q⟩
/-! ### _law_pool, _law_draw, _law_pick -/
/-- a pool at p: its cells at l, how many are taken, what is left of the last great one, the last small one, how many were drawn of it -/
def PoolL (H : Hp) (p l : Addr) : Prop := ∃ (ns : List Int) (a b c d : Int), H p = some (.lst [.ref l, .int a, .int b, .int c, .int d]) ∧ H l = some (.lst (ns.map V.int)) ∧ ns.length ≤ 63 ∧ 0 ≤ a ∧ 0 ≤ b ∧ l ≠ p
/-- all but p is as it was -/
def SameBut (p : Addr) (H H' : Hp) : Prop := ∀ b o, b ≠ p → H b = some o → H' b = some o
theorem SameBut.refl (p : Addr) (H : Hp) : SameBut p H H := fun _ _ _ e => e
theorem SameBut.trans {p : Addr} {H H1 H2 : Hp} (a : SameBut p H H1) (b : SameBut p H1 H2) : SameBut p H H2 := fun c o n e => b c o n (a c o n e)
theorem SameBut.upd {p : Addr} {H H1 : Hp} {o : HO} (a : SameBut p H H1) : SameBut p H (upd H1 p o) := fun b u n e => by rw [upd_ne n]; exact a b u n e
theorem SameBut.of {p : Addr} {H H1 : Hp} (a : Same H H1) : SameBut p H H1 := fun b u _ e => a b u e
theorem SameBut.new {p q : Addr} {H H1 : Hp} {o : HO} (a : SameBut p H H1) (hq : H1 q = none) : SameBut p H (L2.upd H1 q o) := fun b u n e => by
  rw [upd_ne (ne_of_none (a b u n e) hq)]
  exact a b u n e
def spPool (K : PySem.W.Frag) : Sp := fun vs H Q _ => ∃ (a : Addr) (ns : List Int), vs = [.ref a] ∧ SqL K H a (ns.map V.int) ∧ ns.length ≤ 63 ∧ ∀ H' p l, Same H H' → H p = none → H l = none → PoolL H' p l → Q (.ref p) H'
def spDraw : Sp := fun vs H Q _ => ∃ (p l : Addr) (m : Int), vs = [.ref p, .int m] ∧ PoolL H p l ∧ 1 ≤ m ∧ m ≤ 1000000000000000000 ∧ ∀ v H', 0 ≤ v → v < m → PoolL H' p l → SameBut p H H' → Q (.int v) H'
def spPick : Sp := fun vs H Q _ => ∃ (p r l : Addr) (xs : List V), vs = [.ref p, .ref r] ∧ PoolL H p l ∧ H r = some (.lst xs) ∧ r ≠ p ∧ 1 ≤ xs.length ∧ xs.length ≤ sizeLine ∧ ∀ v H', v ∈ xs → PoolL H' p l → SameBut p H H' → Q v H'
section
variable {P : Program} {w : World} {K : PySem.W.Frag} {mg : Str → Option Value} {base : Heap}
theorem ok_pool {f : Addr} {fd : FuncData} (F : Fun K "_law_pool" "_law_pool" s__law_pool f fd) (T : Blt mg) : FnOk P w K mg base CX0 1 f fd ["script"] (spPool K) := by
  refine F.ok sc__law_pool (fun vs H Q E h => ?_) (fun cdv A outer s H vs Q E hr h => ?_)
  · obtain ⟨a, ns, rfl, _⟩ := h
    rfl
  · obtain ⟨a, ns, rfl, hS, hn, k⟩ := h
    refine ⟨_, (pss_one (ps_ret (pe_lst (pa_cons (pe_callTy call_list_of (by rfl) T.b_list (by decide +kernel) (pa_cons (pv 0) pa_nil)) (pa_cons pe_int (pa_cons pe_int (pa_cons pe_int (pa_cons pe_int pa_nil)))))))), ?_⟩
    refine ⟨_, rfl, a, _, rfl, .inl hS, fun l hl => ⟨(by show 5 ≤ sizeLine; decide), fun p hp => ?_⟩⟩
    have nlp : l ≠ p := ne_of_none upd_same hp
    have hp0 : H p = Option.none := by rw [upd_ne (Ne.symm nlp)] at hp; exact hp
    exact k _ p l (same_upd (same_upd (Same.refl _) hl) hp) hp0 hl ⟨ns, 0, 0, 0, 0, upd_same, by rw [upd_ne nlp, upd_same], hn, by omega, by omega, nlp⟩
theorem ok_draw {f : Addr} {fd : FuncData} (F : Fun K "_law_draw" "_law_draw" s__law_draw f fd) (T : Blt mg) : FnOk P w K mg base CX0 1 f fd ["pool", "many"] spDraw := by
  refine F.ok sc__law_draw (fun vs H Q E h => ?_) (fun cdv A outer s H vs Q E hr h => ?_)
  · obtain ⟨p, l, m, rfl, _⟩ := h
    rfl
  · obtain ⟨p, l, m, rfl, ⟨ns, a, b, c, d, hp, hl, hn, ha, hb, nlp⟩, h1, h2, k⟩ := h
    refine ⟨_, (pss_cons (ps_if (pt_cmpR op_gt (pe_ix (r := rIxL K) ix_list (pv 0) pe_int (fun _ _ => rfl)) pe_int (nomark _)) (pss_cons (ps_set (i := 2) sc__law_draw.nd rfl (Or.inl rfl) (pe_op op_modN (pe_callTy call_int1 (by rfl) T.b_int (by decide +kernel) (pa_cons (pe_ix (r := rIxL K) ix_list (pv 0) pe_int (fun _ _ => rfl)) pa_nil)) (pv 1)))
    (pss_cons (ps_asg (pe_op op_fdivW (pe_ix (r := rIxL K) ix_list (pv 0) pe_int (fun _ _ => rfl)) (pv 1)) (pg_sub (pv 0) pe_int set_list))
    (pss_one (ps_ret (pv 2))))) pss_nil)
    (pss_cons (ps_if (PW.pt (pw_and (pt_cmpR op_eq (pe_op op_modN (pe_callTy call_int1 (by rfl) T.b_int (by decide +kernel) (pa_cons (pe_ix (r := rIxL K) ix_list (pv 0) pe_int (fun _ _ => rfl)) pa_nil)) pe_int) pe_int (nomark _)) (pw_and1 (pt_cmpR op_lt (pe_ix (r := rIxL K) ix_list (pv 0) pe_int (fun _ _ => rfl)) (pe_callB call_len (by rfl) T.b_len (by decide +kernel) (pa_cons (pe_ix (r := rIxL K) ix_list (pv 0) pe_int (fun _ _ => rfl)) pa_nil)) (nomark _))))) (pss_cons (ps_set (i := 3) sc__law_draw.nd rfl (Or.inl rfl) (pe_callB call_abs (by rfl) T.b_abs (by decide +kernel) (pa_cons (pe_ix (r := rIxL K) ix_list (pe_ix (r := rIxL K) ix_list (pv 0) pe_int (fun _ _ => rfl)) (pe_ix (r := rIxL K) ix_list (pv 0) pe_int (fun _ _ => rfl)) (fun _ _ => rfl)) pa_nil)))
    (pss_cons (ps_asg (pe_op op_add (pe_ix (r := rIxL K) ix_list (pv 0) pe_int (fun _ _ => rfl)) pe_int) (pg_sub (pv 0) pe_int set_list))
    (pss_cons (ps_if (pt_cmpR op_ge (pv 3) (pe_op op_pow pe_int pe_int) (nomark _)) (pss_cons (ps_asg (pe_op op_fdivW (pv 3) (pv 1)) (pg_sub (pv 0) pe_int set_list))
    (pss_one (ps_ret (pe_op op_modN (pe_callTy call_int1 (by rfl) T.b_int (by decide +kernel) (pa_cons (pv 3) pa_nil)) (pv 1))))) pss_nil)
    (pss_one (ps_asg (pv 3) (pg_sub (pv 0) pe_int set_list)))))) pss_nil)
    (pss_cons (ps_asg (pe_op op_add (pe_ix (r := rIxL K) ix_list (pv 0) pe_int (fun _ _ => rfl)) pe_int) (pg_sub (pv 0) pe_int set_list))
    (pss_cons (ps_set (i := 4) sc__law_draw.nd rfl (Or.inl rfl) (pe_op op_modN (pe_callTy call_int1 (by rfl) T.b_int (by decide +kernel) (pa_cons (pe_op op_add (pe_op op_add (pe_op op_mul (pe_ix (r := rIxL K) ix_list (pv 0) pe_int (fun _ _ => rfl)) pe_int) (pe_op op_mul (pe_ix (r := rIxL K) ix_list (pv 0) pe_int (fun _ _ => rfl)) pe_int)) pe_int) pa_nil)) pe_int))
    (pss_cons (ps_set (i := 4) sc__law_draw.nd rfl (Or.inl rfl) (pe_op op_modN (pe_callTy call_int1 (by rfl) T.b_int (by decide +kernel) (pa_cons (pe_op op_add (pe_op op_mul (pv 4) (pv 4)) (pe_op op_mul (pe_ix (r := rIxL K) ix_list (pv 0) pe_int (fun _ _ => rfl)) pe_int)) pa_nil)) pe_int))
    (pss_one (ps_ret (pe_op op_modN (pe_callTy call_int1 (by rfl) T.b_int (by decide +kernel) (pa_cons (pv 4) pa_nil)) (pv 1))))))))), ?_⟩
    have m0 : (0 : Int) < m := by omega
    have mne : m ≠ 0 := by omega
    have hw : CDivW 0 m := by
      have z := wide_div (i := 0) (j := m) (b := 63) m0 (by omega) (by omega) (by omega)
      exact z
    have hw' : ∀ i : Int, CDivW i m := fun i => hw
    -- the end: pool[4] = pool[4] + 1 .. return
    have fin : ∀ (a b c d : Int) (x y : Option V) (H' : Hp), H' p = some (.lst [.ref l, .int a, .int b, .int c, .int d]) → H' l = some (.lst (ns.map V.int)) → 0 ≤ a → 0 ≤ b → SameBut p H H' →
        tSeq (tAsg (tOp (rI0 fun i j => .int (i + j)) (tOp (rIxL K) (tVar 0) (tC (.int 4))) (tC (.int 1))) (gSub (tVar 0) (tC (.int 4)) rSetL))
          (tSeq (tAsg (tOp (rI (fun i j => j ≠ 0) fun i j => .int (i.fmod j)) (tCB (fun xs H Q => (∃ i, xs = [.int i] ∧ Q (.int i) H) ∨ ∃ k, xs = [.bl k] ∧ Q (.int (if k then 1 else 0)) H)
            (tCons (tOp (rI0 fun i j => .int (i + j)) (tOp (rI0 fun i j => .int (i + j)) (tOp (rI CMul fun i j => .int (i * j)) (tOp (rIxL K) (tVar 0) (tC (.int 3))) (tC (.int 48271))) (tOp (rI CMul fun i j => .int (i * j)) (tOp (rIxL K) (tVar 0) (tC (.int 4))) (tC (.int 69621)))) (tC (.int 7919))) tNil)) (tC (.int 2147483647))) (gName 4))
          (tSeq (tAsg (tOp (rI (fun i j => j ≠ 0) fun i j => .int (i.fmod j)) (tCB (fun xs H Q => (∃ i, xs = [.int i] ∧ Q (.int i) H) ∨ ∃ k, xs = [.bl k] ∧ Q (.int (if k then 1 else 0)) H)
            (tCons (tOp (rI0 fun i j => .int (i + j)) (tOp (rI CMul fun i j => .int (i * j)) (tVar 4) (tVar 4)) (tOp (rI CMul fun i j => .int (i * j)) (tOp (rIxL K) (tVar 0) (tC (.int 4))) (tC (.int 40692)))) tNil)) (tC (.int 2147483399))) (gName 4))
          (tRet (tOp (rI (fun i j => j ≠ 0) fun i j => .int (i.fmod j)) (tCB (fun xs H Q => (∃ i, xs = [.int i] ∧ Q (.int i) H) ∨ ∃ k, xs = [.bl k] ∧ Q (.int (if k then 1 else 0)) H) (tCons (tVar 4) tNil)) (tVar 1)))))
          { nx := fun _ H' => Q .non H', rt := Q } [some (.ref p), some (.int m), x, y, none] H' := by
      intro a b c d x y H' hp hl ha hb sb
      refine ⟨_, rfl, p, _, _, _, rfl, rfl, SqL.of hp, atI_nat (j := 4) rfl, _, _, rfl, rfl, _, rfl, p, _, _, 4, rfl, rfl, hp, rfl, ?_⟩
      have hl' : upd H' p (.lst [.ref l, .int a, .int b, .int c, .int (d + 1)]) l = some (.lst (ns.map V.int)) := by rw [upd_ne nlp]; exact hl
      show tSeq _ _ _ _ (upd H' p (.lst [.ref l, .int a, .int b, .int c, .int (d + 1)]))
      have hp2 : upd H' p (.lst [V.ref l, V.int a, V.int b, V.int c, V.int (d + 1)]) p = some (.lst [V.ref l, V.int a, V.int b, V.int c, V.int (d + 1)]) := upd_same
      have sb2 : SameBut p H (upd H' p (.lst [V.ref l, V.int a, V.int b, V.int c, V.int (d + 1)])) := sb.upd
      generalize upd H' p (.lst [V.ref l, V.int a, V.int b, V.int c, V.int (d + 1)]) = H2 at *
      refine ⟨_, rfl, p, _, _, _, rfl, rfl, SqL.of hp2, atI_nat (j := 3) rfl, _, _, rfl, rfl, .inr ⟨by decide, by decide⟩, ?_⟩
      refine ⟨_, rfl, p, _, _, _, rfl, rfl, SqL.of hp2, atI_nat (j := 4) rfl, _, _, rfl, rfl, .inr ⟨by decide, by decide⟩, ?_⟩
      refine ⟨_, _, rfl, rfl, _, _, rfl, rfl, .inl ⟨_, rfl, _, _, rfl, rfl, (show (2147483647 : Int) ≠ 0 by decide), ?_⟩⟩
      have q0 := Int.fmod_nonneg_of_pos (c * 48271 + (d + 1) * 69621 + 7919) (show (0 : Int) < 2147483647 by decide)
      have q1 := Int.fmod_lt_of_pos (c * 48271 + (d + 1) * 69621 + 7919) (show (0 : Int) < 2147483647 by decide)
      refine ⟨_, rfl, _, rfl, _, _, rfl, rfl, .inl ⟨by omega, by omega⟩, ?_⟩
      refine ⟨_, rfl, p, _, _, _, rfl, rfl, SqL.of hp2, atI_nat (j := 4) rfl, _, _, rfl, rfl, .inr ⟨by decide, by decide⟩, ?_⟩
      refine ⟨_, _, rfl, rfl, .inl ⟨_, rfl, _, _, rfl, rfl, (show (2147483399 : Int) ≠ 0 by decide), ?_⟩⟩
      refine ⟨_, rfl, .inl ⟨_, rfl, _, rfl, _, _, rfl, rfl, mne, ?_⟩⟩
      exact k _ _ (Int.fmod_nonneg_of_pos _ m0) (Int.fmod_lt_of_pos _ m0) ⟨ns, a, b, c, d + 1, hp2, hl', hn, ha, hb, nlp⟩ sb2
    refine ⟨_, rfl, p, _, _, _, rfl, rfl, SqL.of hp, atI_nat (j := 2) rfl, _, _, rfl, rfl, _, rfl, ?_⟩
    refine ite2 (fun hb0 => ?_) (fun hb0 => ?_)
    · -- what is left of a great cell
      refine ⟨_, rfl, p, _, _, _, rfl, rfl, SqL.of hp, atI_nat (j := 2) rfl, .inl ⟨_, rfl, _, rfl, _, _, rfl, rfl, mne, ?_⟩⟩
      refine ⟨_, rfl, p, _, _, _, rfl, rfl, SqL.of hp, atI_nat (j := 2) rfl, _, rfl, _, _, rfl, rfl, hw' _, _, rfl, p, _, _, 2, rfl, rfl, hp, rfl, ?_⟩
      refine ⟨_, rfl, ?_⟩
      exact k _ _ (Int.fmod_nonneg_of_pos _ m0) (Int.fmod_lt_of_pos _ m0) ⟨ns, a, b / m, c, d, upd_same, by rw [upd_ne nlp]; exact hl, hn, ha, Int.ediv_nonneg hb (by omega), nlp⟩ (SameBut.refl p H).upd
    · refine ⟨_, rfl, p, _, _, _, rfl, rfl, SqL.of hp, atI_nat (j := 4) rfl, .inl ⟨_, rfl, _, _, rfl, rfl, (show (8 : Int) ≠ 0 by decide), rfl, _, rfl, ?_⟩⟩
      refine ite2 (fun h8 => ?_) (fun h8 => ?_)
      · refine ⟨_, rfl, p, _, _, _, rfl, rfl, SqL.of hp, atI_nat (j := 1) rfl, _, rfl, p, _, _, _, rfl, rfl, SqL.of hp, atI_nat (j := 0) rfl, _, _, rfl, .inl ⟨_, SqL.of hl, rfl⟩, _, _, rfl, rfl, _, rfl, ?_⟩
        refine ite2 (fun hlt => ?_) (fun hlt => ?_)
        · have hlt' := of_decide_eq_true hlt
          rw [List.length_map] at hlt'
          obtain ⟨n, rfl⟩ := Int.eq_ofNat_of_zero_le ha
          have hn' : n < ns.length := by omega
          refine ⟨_, rfl, p, _, _, _, rfl, rfl, SqL.of hp, atI_nat (j := 0) rfl, _, rfl, p, _, _, _, rfl, rfl, SqL.of hp, atI_nat (j := 1) rfl, l, _, _, _, rfl, rfl, SqL.of hl, atI_nat (v := V.int ns[n]) (by simp [hn']), _, rfl, ?_⟩
          have hcell : 0 ≤ (if ns[n] < 0 then -ns[n] else ns[n]) := by split <;> omega
          generalize (if ns[n] < 0 then -ns[n] else ns[n]) = cell at *
          refine ⟨_, rfl, p, _, _, _, rfl, rfl, SqL.of hp, atI_nat (j := 1) rfl, _, _, rfl, rfl, _, rfl, p, _, _, 1, rfl, rfl, hp, rfl, ?_⟩
          have hp2 : upd H p (.lst [V.ref l, V.int ((n : Int) + 1), V.int b, V.int c, V.int d]) p = some (.lst [V.ref l, V.int ((n : Int) + 1), V.int b, V.int c, V.int d]) := upd_same
          have hl2 : upd H p (.lst [V.ref l, V.int ((n : Int) + 1), V.int b, V.int c, V.int d]) l = some (.lst (ns.map V.int)) := by rw [upd_ne nlp]; exact hl
          have sb2 : SameBut p H (upd H p (.lst [V.ref l, V.int ((n : Int) + 1), V.int b, V.int c, V.int d])) := (SameBut.refl p H).upd
          show tSeq _ _ _ _ (upd H p (.lst [V.ref l, V.int ((n : Int) + 1), V.int b, V.int c, V.int d]))
          generalize upd H p (.lst [V.ref l, V.int ((n : Int) + 1), V.int b, V.int c, V.int d]) = H2 at *
          refine ⟨_, rfl, _, _, rfl, rfl, ⟨by decide, by decide, by decide⟩, _, _, rfl, rfl, _, rfl, ?_⟩
          refine ite2 (fun hg => ?_) (fun hg => ?_)
          · refine ⟨_, rfl, _, rfl, _, _, rfl, rfl, hw' _, _, rfl, p, _, _, 2, rfl, rfl, hp2, rfl, ?_⟩
            refine ⟨_, rfl, .inl ⟨_, rfl, _, rfl, _, _, rfl, rfl, mne, ?_⟩⟩
            exact k _ _ (Int.fmod_nonneg_of_pos _ m0) (Int.fmod_lt_of_pos _ m0) ⟨ns, (n : Int) + 1, cell / m, c, d, upd_same, by rw [upd_ne nlp]; exact hl2, hn, by omega, Int.ediv_nonneg hcell (by omega), nlp⟩ sb2.upd
          · refine ⟨_, rfl, _, rfl, p, _, _, 3, rfl, rfl, hp2, rfl, ?_⟩
            exact fin ((n : Int) + 1) b cell d none (some (.int cell)) _ upd_same (by rw [upd_ne nlp]; exact hl2) (by omega) hb sb2.upd
        · exact fin a b c d none none H hp hl ha hb (SameBut.refl p H)
      · refine iteF ?_
        exact fin a b c d none none H hp hl ha hb (SameBut.refl p H)
theorem ok_pick {f fD : Addr} {fd fdD : FuncData} (F : Fun K "_law_pick" "_law_pick" s__law_pick f fd) (T : Blt mg)
    (FD : FnOk P w K mg base CX0 1 fD fdD ["pool", "many"] spDraw) (mgD : mg "_law_draw" = some (.ref fD)) (kD : PySem.W.keepIn K (.ref fD) = true) (bD : Binds K fdD ["pool", "many"] []) : FnOk P w K mg base CX0 2 f fd ["pool", "rows"] spPick := by
  refine F.ok sc__law_pick (fun vs H Q E h => ?_) (fun cdv A outer s H vs Q E hr h => ?_)
  · obtain ⟨p, r, l, xs, rfl, _⟩ := h
    rfl
  · obtain ⟨p, r, l, xs, rfl, hP, hr1, nrp, hx, hz, k⟩ := h
    refine ⟨_, (pss_one (ps_ret (pe_ix (r := rIxL K) ix_list (pv 1) (pe_call FD hr rfl mgD kD bD .nil pass0 (pa_cons (pv 0) (pa_cons (pe_callB call_len (by rfl) T.b_len (by decide +kernel) (pa_cons (pv 1) pa_nil)) pa_nil))) (fun _ _ => rfl)))), ?_⟩
    refine ⟨_, rfl, _, rfl, _, rfl, _, _, rfl, .inl ⟨_, SqL.of hr1, rfl⟩, p, l, (xs.length : Int), rfl, hP, by omega, ?_, fun v H' h0 hv hP' sb => ?_⟩
    · rw [sizeLine_eq] at hz; omega
    · obtain ⟨n, rfl⟩ := Int.eq_ofNat_of_zero_le h0
      have hn : n < xs.length := by omega
      refine ⟨r, xs, _, xs[n], rfl, rfl, SqL.of (sb _ _ nrp hr1), atI_nat (by simp [hn]), ?_⟩
      exact k _ _ (List.getElem_mem hn) hP' sb
end
/-! ### _law_same: of the same data it says True -/
/-- data without dicts, so deep at most -/
def okD : Nat → PyData → Prop
  | 0, _ => False
  | n + 1, d => match d with
    | .dict _ => False
    | .list ds => ds.length ≤ 1000000 ∧ ∀ e ∈ ds, okD n e
    | .tuple ds => ds.length ≤ 1000000 ∧ ∀ e ∈ ds, okD n e
    | _ => True
theorem seqT {K : PySem.W.Frag} {H H' : Hp} {a : Addr} {xs : List V} (s : Same H H') (h : SqT K H a xs) : SqT K H' a xs := by
  rcases h with (h | ⟨o, h⟩) | h
  · exact .inl (.inl (s _ _ h))
  · exact .inl (.inr ⟨o, s _ _ h⟩)
  · exact .inr h
mutual
theorem dp_keep {K : PySem.W.Frag} {H H' : Hp} (s : Same H H') : ∀ {d : PyData} {v : V}, Dp K H v d → Dp K H' v d
  | _, _, .non => .non
  | _, _, .bl b => .bl b
  | _, _, .int i => .int i
  | _, _, .str x => .str x
  | _, _, .lst h t => .lst (s.seq h) (dpAll_keep s t)
  | _, _, .tup h t => .tup (by
      rcases h with (h | ⟨o, h⟩) | h
      · exact .inl (.inl (s _ _ h))
      · exact .inl (.inr ⟨o, s _ _ h⟩)
      · exact .inr h) (dpAll_keep s t)
theorem dpAll_keep {K : PySem.W.Frag} {H H' : Hp} (s : Same H H') : ∀ {ds : List PyData} {vs : List V}, DpAll K H vs ds → DpAll K H' vs ds
  | _, _, .nil => .nil
  | _, _, .cons h t => .cons (dp_keep s h) (dpAll_keep s t)
end
theorem dpAll_at {K : PySem.W.Frag} {H : Hp} : ∀ {ds : List PyData} {vs : List V} {i : Nat} {d : PyData}, DpAll K H vs ds → ds[i]? = some d → ∃ v, vs[i]? = some v ∧ Dp K H v d
  | _, _, _, _, .nil, e => by simp at e
  | _, _, 0, _, .cons h _, e => by
    have := Option.some.inj e
    subst this
    exact ⟨_, rfl, h⟩
  | _, _, i + 1, _, .cons _ t, e => by
    obtain ⟨x, e1, e2⟩ := dpAll_at (i := i) t (by simpa using e)
    exact ⟨x, by simpa using e1, e2⟩
theorem dpAll_len {K : PySem.W.Frag} {H : Hp} : ∀ {ds : List PyData} {vs : List V}, DpAll K H vs ds → vs.length = ds.length
  | _, _, .nil => rfl
  | _, _, .cons _ t => by rw [List.length_cons, List.length_cons, dpAll_len t]
/-- the type of a list, a tuple as the heap tells it -/
theorem tyL {K : PySem.W.Frag} {H : Hp} {a : Addr} {xs : List V} (h : SqL K H a xs) : TyX K H (.ref a) (.type "list") := by
  rcases h with (h | ⟨o, h⟩) | ⟨o, its, n, h, c, _⟩
  · exact .base (.lst h)
  · exact .base (.frz h)
  · exact .kList h c
theorem tyT {K : PySem.W.Frag} {H : Hp} {a : Addr} {xs : List V} (h : SqT K H a xs) : TyX K H (.ref a) (.type "tuple") := by
  rcases h with (h | ⟨o, h⟩) | ⟨o, its, n, h, c, _⟩
  · exact .base (.tup h)
  · exact .fTuple h
  · exact .kTuple h c
theorem any_no {K : PySem.W.Frag} {t : String} (h1 : kitB t "tuple" = some false) (h2 : kitB t "list" = some false) : PySem.W.kitAny K (.type t) [.type "tuple", .type "list"] = some false :=
  kitAny_cons (kit_ty h1) (fun _ => kitAny_cons (kit_ty h2) (fun _ => kitAny_nil) (fun z => by cases z)) (fun z => by cases z)
theorem any_list {K : PySem.W.Frag} : PySem.W.kitAny K (.type "list") [.type "tuple", .type "list"] = some true :=
  kitAny_cons (b := false) (kit_ty (by decide +kernel)) (fun _ => kitAny_cons (b := true) (kit_ty (by decide +kernel)) (fun z => by cases z) (fun _ => rfl)) (fun z => by cases z)
theorem any_tuple {K : PySem.W.Frag} : PySem.W.kitAny K (.type "tuple") [.type "tuple", .type "list"] = some true :=
  kitAny_cons (b := true) (kit_ty (by decide +kernel)) (fun z => by cases z) (fun _ => rfl)
def spSame (K : PySem.W.Frag) (n : Nat) : Sp := fun vs H Q _ => ∃ (v1 v2 : V) (d : PyData), vs = [v1, v2] ∧ Dp K H v1 d ∧ Dp K H v2 d ∧ okD n d ∧ ∀ H', Same H H' → Q (.bl true) H'
section
variable {P : Program} {w : World} {K : PySem.W.Frag} {mg : Str → Option Value} {base : Heap}
theorem ok_same {f : Addr} {fd : FuncData} (F : Fun K "_law_same" "_law_same" s__law_same f fd) (T : Blt mg) (mgS : mg "_law_same" = some (.ref f)) (kS : PySem.W.keepIn K (.ref f) = true) (bS : Binds K fd ["actual", "due"] []) :
    ∀ n : Nat, FnOk P w K mg base CX0 (n + 1) f fd ["actual", "due"] (spSame K n)
  | 0 => by
    refine F.ok sc__law_same (fun vs H Q E h => ?_) (fun cdv A outer s H vs Q E hr h => ?_)
    · obtain ⟨v1, v2, d, rfl, _⟩ := h
      rfl
    · obtain ⟨v1, v2, d, rfl, _, _, z, _⟩ := h
      exact z.elim
  | n + 1 => by
    have FS := ok_same F T mgS kS bS n
    refine F.ok sc__law_same (fun vs H Q E h => ?_) (fun cdv A outer s H vs Q E hr h => ?_)
    · obtain ⟨v1, v2, d, rfl, _⟩ := h
      rfl
    · obtain ⟨v1, v2, d, rfl, h1, h2, hd, k⟩ := h
      refine ⟨_, (pss_cons (ps_if (pt_cmpR op_isN (pv 1) pe_non (nomark _)) (pss_one (ps_ret (pe_cmpR op_isN (pv 0) pe_non (nomark _)))) pss_nil)
    (pss_cons (ps_if (pt_val (pe_callB call_isiT (by rfl) T.b_isinstance (by decide +kernel) (pa_cons (pv 1) (pa_cons (pe_tup (pa_cons (pe_bltn (v := .ty "tuple") (u := .type "tuple") (by rfl) T.b_tuple (by decide +kernel) rfl) (pa_cons (pe_bltn (v := .ty "list") (u := .type "list") (by rfl) T.b_list (by decide +kernel) rfl) pa_nil))) pa_nil)))) (pss_cons (ps_if (PW.pt (pw_or (pt_cmpR op_ne (pe_callB call_isi (by rfl) T.b_isinstance (by decide +kernel) (pa_cons (pv 1) (pa_cons (pe_bltn (v := .ty "tuple") (u := .type "tuple") (by rfl) T.b_tuple (by decide +kernel) rfl) pa_nil))) (pe_callB call_isi (by rfl) T.b_isinstance (by decide +kernel) (pa_cons (pv 0) (pa_cons (pe_bltn (v := .ty "tuple") (u := .type "tuple") (by rfl) T.b_tuple (by decide +kernel) rfl) pa_nil))) (nomark _)) (pw_or1 (pt_cmpR op_ne (pe_callB call_isi (by rfl) T.b_isinstance (by decide +kernel) (pa_cons (pv 1) (pa_cons (pe_bltn (v := .ty "list") (u := .type "list") (by rfl) T.b_list (by decide +kernel) rfl) pa_nil))) (pe_callB call_isi (by rfl) T.b_isinstance (by decide +kernel) (pa_cons (pv 0) (pa_cons (pe_bltn (v := .ty "list") (u := .type "list") (by rfl) T.b_list (by decide +kernel) rfl) pa_nil))) (nomark _))))) (pss_one (ps_ret pe_bl)) pss_nil)
    (pss_cons (ps_if (pt_cmpR op_ne (pe_callB call_len (by rfl) T.b_len (by decide +kernel) (pa_cons (pv 0) pa_nil)) (pe_callB call_len (by rfl) T.b_len (by decide +kernel) (pa_cons (pv 1) pa_nil)) (nomark _)) (pss_one (ps_ret pe_bl)) pss_nil)
    (pss_cons (ps_for PassesOwn.never rfl (pi_range1 (by rfl) T.b_range (pa_cons (pe_callB call_len (by rfl) T.b_len (by decide +kernel) (pa_cons (pv 1) pa_nil)) pa_nil)) (pg_name (i := 2) sc__law_same.nd rfl (Or.inl rfl)) (pss_one (ps_if (pt_not (pt_val (pe_call FS hr rfl mgS kS bS .nil pass0 (pa_cons (pe_ix (r := rIx K) ix_seq (pv 0) (pv 2) (fun _ _ => rfl)) (pa_cons (pe_ix (r := rIx K) ix_seq (pv 1) (pv 2) (fun _ _ => rfl)) pa_nil))))) (pss_one (ps_ret pe_bl)) pss_nil)))
    (pss_one (ps_ret pe_bl))))) pss_nil)
    (pss_cons (ps_if (pt_val (pe_callB call_isi (by rfl) T.b_isinstance (by decide +kernel) (pa_cons (pv 1) (pa_cons (pe_bltn (v := .ty "bool") (u := .type "bool") (by rfl) T.b_bool (by decide +kernel) rfl) pa_nil)))) (pss_one (ps_ret (pe_and (pe_callB call_isi (by rfl) T.b_isinstance (by decide +kernel) (pa_cons (pv 0) (pa_cons (pe_bltn (v := .ty "bool") (u := .type "bool") (by rfl) T.b_bool (by decide +kernel) rfl) pa_nil))) (pe_one (pe_cmpR op_eq (pv 0) (pv 1) (nomark _)))))) pss_nil)
    (pss_cons (ps_if (pt_val (pe_callB call_isi (by rfl) T.b_isinstance (by decide +kernel) (pa_cons (pv 1) (pa_cons (pe_bltn (v := .ty "int") (u := .type "int") (by rfl) T.b_int (by decide +kernel) rfl) pa_nil)))) (pss_one (ps_ret (pe_and (pe_callB call_isi (by rfl) T.b_isinstance (by decide +kernel) (pa_cons (pv 0) (pa_cons (pe_bltn (v := .ty "int") (u := .type "int") (by rfl) T.b_int (by decide +kernel) rfl) pa_nil))) (pe_and (pe_not (pe_callB call_isi (by rfl) T.b_isinstance (by decide +kernel) (pa_cons (pv 0) (pa_cons (pe_bltn (v := .ty "bool") (u := .type "bool") (by rfl) T.b_bool (by decide +kernel) rfl) pa_nil)))) (pe_one (pe_cmpR op_eq (pv 0) (pv 1) (nomark _))))))) pss_nil)
    (pss_one (ps_ret (pe_and (pe_callB call_isi (by rfl) T.b_isinstance (by decide +kernel) (pa_cons (pv 0) (pa_cons (pe_bltn (v := .ty "str") (u := .type "str") (by rfl) T.b_str (by decide +kernel) rfl) pa_nil))) (pe_one (pe_cmpR op_eq (pv 0) (pv 1) (nomark _)))))))))), ?_⟩
      cases d with
      | dict _ => exact hd.elim
      | none =>
        cases h1; cases h2
        refine ⟨_, rfl, rfl, _, rfl, ?_⟩
        refine iteT ?_
        refine ⟨_, rfl, rfl, ?_⟩
        exact k _ (Same.refl _)
      | bool b =>
        cases h1; cases h2
        refine ⟨_, rfl, rfl, _, rfl, ?_⟩
        refine iteF ?_
        refine ⟨_, rfl, (by show 2 ≤ sizeLine; decide), fun p hp => ?_⟩
        refine ⟨_, p, _, .type "bool", _, false, rfl, upd_same, .cons (.ty "tuple") (.cons (.ty "list") .nil), .base (.bl _), any_no (by decide +kernel) (by decide +kernel), false, rfl, ?_⟩
        refine iteF ?_
        refine ⟨_, rfl, _, _, .type "bool", _, true, rfl, .ty "bool", .base (.bl _), kit_ty (by decide +kernel), true, rfl, ?_⟩
        refine iteT ?_
        refine ⟨_, rfl, _, _, .type "bool", _, true, rfl, .ty "bool", .base (.bl _), kit_ty (by decide +kernel), true, rfl, ?_⟩
        refine iteT ?_
        refine ⟨_, rfl, _, rfl, rfl, ?_⟩
        rw [decide_eq_true rfl]
        exact k _ (same_upd (Same.refl _) hp)
      | int i =>
        cases h1; cases h2
        refine ⟨_, rfl, rfl, _, rfl, ?_⟩
        refine iteF ?_
        refine ⟨_, rfl, (by show 2 ≤ sizeLine; decide), fun p hp => ?_⟩
        refine ⟨_, p, _, .type "int", _, false, rfl, upd_same, .cons (.ty "tuple") (.cons (.ty "list") .nil), .base (.int _), any_no (by decide +kernel) (by decide +kernel), false, rfl, ?_⟩
        refine iteF ?_
        refine ⟨_, rfl, _, _, .type "int", _, false, rfl, .ty "bool", .base (.int _), kit_ty (by decide +kernel), false, rfl, ?_⟩
        refine iteF ?_
        refine ⟨_, rfl, _, _, .type "int", _, true, rfl, .ty "int", .base (.int _), kit_ty (by decide +kernel), true, rfl, ?_⟩
        refine iteT ?_
        refine ⟨_, rfl, _, _, .type "int", _, true, rfl, .ty "int", .base (.int _), kit_ty (by decide +kernel), true, rfl, ?_⟩
        refine iteT ?_
        refine ⟨_, rfl, _, _, .type "int", _, false, rfl, .ty "bool", .base (.int _), kit_ty (by decide +kernel), false, rfl, true, rfl, ?_⟩
        refine iteT ?_
        refine ⟨_, rfl, _, rfl, rfl, ?_⟩
        rw [decide_eq_true rfl]
        exact k _ (same_upd (Same.refl _) hp)
      | str x =>
        cases h1; cases h2
        refine ⟨_, rfl, rfl, _, rfl, ?_⟩
        refine iteF ?_
        refine ⟨_, rfl, (by show 2 ≤ sizeLine; decide), fun p hp => ?_⟩
        refine ⟨_, p, _, .type "str", _, false, rfl, upd_same, .cons (.ty "tuple") (.cons (.ty "list") .nil), .base (.str _), any_no (by decide +kernel) (by decide +kernel), false, rfl, ?_⟩
        refine iteF ?_
        refine ⟨_, rfl, _, _, .type "str", _, false, rfl, .ty "bool", .base (.str _), kit_ty (by decide +kernel), false, rfl, ?_⟩
        refine iteF ?_
        refine ⟨_, rfl, _, _, .type "str", _, false, rfl, .ty "int", .base (.str _), kit_ty (by decide +kernel), false, rfl, ?_⟩
        refine iteF ?_
        refine ⟨_, rfl, _, _, .type "str", _, true, rfl, .ty "str", .base (.str _), kit_ty (by decide +kernel), true, rfl, ?_⟩
        refine iteT ?_
        refine ⟨_, rfl, _, rfl, rfl, ?_⟩
        rw [decide_eq_true rfl]
        exact k _ (same_upd (Same.refl _) hp)
      | list ds =>
        cases h1 with
        | lst q1 t1 =>
        cases h2 with
        | lst q2 t2 =>
        rename_i a1 xs1 a2 xs2
        have l1 := dpAll_len t1
        have l2 := dpAll_len t2
        refine ⟨_, rfl, rfl, _, rfl, ?_⟩
        refine iteF ?_
        refine ⟨_, rfl, (by show 2 ≤ sizeLine; decide), fun p hp => ?_⟩
        refine ⟨_, p, _, .type "list", _, true, rfl, upd_same, .cons (.ty "tuple") (.cons (.ty "list") .nil), tyL (Same.seq (same_upd (Same.refl _) hp) q2), any_list, true, rfl, ?_⟩
        refine iteT ?_
        have s0 : Same H (upd H p (.tup [.ty "tuple", .ty "list"])) := same_upd (Same.refl _) hp
        show tSeq _ _ _ _ (upd H p (.tup [.ty "tuple", .ty "list"]))
        generalize upd H p (.tup [V.ty "tuple", V.ty "list"]) = H1 at *
        have p1 := Same.seq s0 q1
        have p2 := Same.seq s0 q2
        refine ⟨_, rfl, _, _, .type "list", _, false, rfl, .ty "tuple", tyL p2, kit_ty (by decide +kernel), _, rfl, _, _, .type "list", _, false, rfl, .ty "tuple", tyL p1, kit_ty (by decide +kernel), rfl, _, rfl, ?_⟩
        refine iteF ?_
        refine ⟨_, rfl, _, _, .type "list", _, true, rfl, .ty "list", tyL p2, kit_ty (by decide +kernel), _, rfl, _, _, .type "list", _, true, rfl, .ty "list", tyL p1, kit_ty (by decide +kernel), rfl, _, rfl, ?_⟩
        refine iteF ?_
        refine ⟨_, rfl, _, _, rfl, .inl ⟨_, p1, rfl⟩, _, rfl, _, _, rfl, .inl ⟨_, p2, rfl⟩, rfl, _, rfl, ?_⟩
        rw [l1, l2]
        refine iteNS rfl ?_
        refine ⟨_, rfl, _, _, rfl, .inl ⟨_, p2, rfl⟩, _, rfl, ?_, ?_, ?_⟩
        · rw [l2]; have := hd.1; omega
        · rw [l2]; have := hd.1; omega
        rw [l2]
        refine for_range (lo := 0) (n := ((ds.length : Nat) : Int).toNat) (fun i σ H' => ∃ v, σ = [some (.ref a1), some (.ref a2), v] ∧ Same H1 H') ⟨none, rfl, Same.refl _⟩ ?_ ?_
        · rintro i σ H' hi ⟨v, rfl, sH⟩
          have hi' : i < ds.length := by simpa using hi
          obtain ⟨x1, e1, d1⟩ := dpAll_at t1 (List.getElem?_eq_getElem hi')
          obtain ⟨x2, e2, d2⟩ := dpAll_at t2 (List.getElem?_eq_getElem hi')
          have s3 := s0.trans sH
          have ei : ((0 : Int) + (i : Int)) = (i : Int) := by omega
          refine ⟨_, rfl, _, rfl, .inl ⟨a1, xs1, _, x1, rfl, rfl, Same.seq sH p1, by rw [ei]; exact atI_nat e1, ?_⟩⟩
          refine ⟨_, rfl, _, rfl, .inl ⟨a2, xs2, _, x2, rfl, rfl, Same.seq sH p2, by rw [ei]; exact atI_nat e2, ?_⟩⟩
          refine ⟨x1, x2, ds[i], rfl, dp_keep s3 d1, dp_keep s3 d2, hd.2 _ (List.getElem_mem hi'), fun H2 s2 => ⟨true, rfl, ?_⟩⟩
          refine iteF ?_
          exact ⟨_, rfl, sH.trans s2⟩
        · rintro σ H' ⟨v, rfl, sH⟩
          exact k _ (s0.trans sH)
      | tuple ds =>
        cases h1 with
        | tup q1 t1 =>
        cases h2 with
        | tup q2 t2 =>
        rename_i a1 xs1 a2 xs2
        have l1 := dpAll_len t1
        have l2 := dpAll_len t2
        refine ⟨_, rfl, rfl, _, rfl, ?_⟩
        refine iteF ?_
        refine ⟨_, rfl, (by show 2 ≤ sizeLine; decide), fun p hp => ?_⟩
        refine ⟨_, p, _, .type "tuple", _, true, rfl, upd_same, .cons (.ty "tuple") (.cons (.ty "list") .nil), tyT (seqT (same_upd (Same.refl _) hp) q2), any_tuple, true, rfl, ?_⟩
        refine iteT ?_
        have s0 : Same H (upd H p (.tup [.ty "tuple", .ty "list"])) := same_upd (Same.refl _) hp
        show tSeq _ _ _ _ (upd H p (.tup [.ty "tuple", .ty "list"]))
        generalize upd H p (.tup [V.ty "tuple", V.ty "list"]) = H1 at *
        have p1 := seqT s0 q1
        have p2 := seqT s0 q2
        refine ⟨_, rfl, _, _, .type "tuple", _, true, rfl, .ty "tuple", tyT p2, kit_ty (by decide +kernel), _, rfl, _, _, .type "tuple", _, true, rfl, .ty "tuple", tyT p1, kit_ty (by decide +kernel), rfl, _, rfl, ?_⟩
        refine iteF ?_
        refine ⟨_, rfl, _, _, .type "tuple", _, false, rfl, .ty "list", tyT p2, kit_ty (by decide +kernel), _, rfl, _, _, .type "tuple", _, false, rfl, .ty "list", tyT p1, kit_ty (by decide +kernel), rfl, _, rfl, ?_⟩
        refine iteF ?_
        refine ⟨_, rfl, _, _, rfl, .inr ⟨_, p1, rfl⟩, _, rfl, _, _, rfl, .inr ⟨_, p2, rfl⟩, rfl, _, rfl, ?_⟩
        rw [l1, l2]
        refine iteNS rfl ?_
        refine ⟨_, rfl, _, _, rfl, .inr ⟨_, p2, rfl⟩, _, rfl, ?_, ?_, ?_⟩
        · rw [l2]; have := hd.1; omega
        · rw [l2]; have := hd.1; omega
        rw [l2]
        refine for_range (lo := 0) (n := ((ds.length : Nat) : Int).toNat) (fun i σ H' => ∃ v, σ = [some (.ref a1), some (.ref a2), v] ∧ Same H1 H') ⟨none, rfl, Same.refl _⟩ ?_ ?_
        · rintro i σ H' hi ⟨v, rfl, sH⟩
          have hi' : i < ds.length := by simpa using hi
          obtain ⟨x1, e1, d1⟩ := dpAll_at t1 (List.getElem?_eq_getElem hi')
          obtain ⟨x2, e2, d2⟩ := dpAll_at t2 (List.getElem?_eq_getElem hi')
          have s3 := s0.trans sH
          have ei : ((0 : Int) + (i : Int)) = (i : Int) := by omega
          refine ⟨_, rfl, _, rfl, .inr (.inl ⟨a1, xs1, _, x1, rfl, rfl, seqT sH p1, by rw [ei]; exact atI_nat e1, ?_⟩)⟩
          refine ⟨_, rfl, _, rfl, .inr (.inl ⟨a2, xs2, _, x2, rfl, rfl, seqT sH p2, by rw [ei]; exact atI_nat e2, ?_⟩)⟩
          refine ⟨x1, x2, ds[i], rfl, dp_keep s3 d1, dp_keep s3 d2, hd.2 _ (List.getElem_mem hi'), fun H2 s2 => ⟨true, rfl, ?_⟩⟩
          refine iteF ?_
          exact ⟨_, rfl, sH.trans s2⟩
        · rintro σ H' ⟨v, rfl, sH⟩
          exact k _ (s0.trans sH)
end
theorem PoolL.keep {H H' : Hp} {p l : Addr} (h : PoolL H p l) (s : Same H H') : PoolL H' p l := by
  obtain ⟨ns, a, b, c, d, h1, h2, h3⟩ := h
  exact ⟨ns, a, b, c, d, s _ _ h1, s _ _ h2, h3⟩
theorem PoolL.ne {H : Hp} {p l q : Addr} (h : PoolL H p l) (hq : H q = none) : q ≠ p := by
  obtain ⟨ns, a, b, c, d, h1, _⟩ := h
  exact fun z => by rw [z, h1] at hq; cases hq
theorem PoolL.nel {H : Hp} {p l q : Addr} (h : PoolL H p l) (hq : H q = none) : q ≠ l := by
  obtain ⟨ns, a, b, c, d, _, h2, _⟩ := h
  exact fun z => by rw [z, h2] at hq; cases hq
theorem PoolL.new {H : Hp} {p l q : Addr} {o : HO} (h : PoolL H p l) (hq : H q = none) : PoolL (upd H q o) p l := h.keep (same_upd (Same.refl _) hq)
theorem PoolL.put {H : Hp} {p l q : Addr} {o : HO} (h : PoolL H p l) (n1 : q ≠ p) (n2 : q ≠ l) : PoolL (upd H q o) p l := by
  obtain ⟨ns, a, b, c, d, h1, h2, h3⟩ := h
  exact ⟨ns, a, b, c, d, by rw [upd_ne n1.symm]; exact h1, by rw [upd_ne n2.symm]; exact h2, h3⟩
theorem okD_flat {n : Nat} {ds : List PyData} (hl : ds.length ≤ 1000000) (h : ∀ e ∈ ds, okD (n + 1) e) : okD (n + 2) (.list ds) ∧ okD (n + 2) (.tuple ds) := ⟨⟨hl, h⟩, ⟨hl, h⟩⟩
theorem okD_two {n : Nat} {a b : PyData} (ha : okD (n + 1) a) (hb : okD (n + 1) b) : okD (n + 2) (.tuple [a, b]) := ⟨by simp, fun e he => by
  rcases List.mem_cons.mp he with rfl | he
  · exact ha
  · rw [List.mem_singleton.mp he]; exact hb⟩
/-! ### methods and makings that may raise; text times a number; X(e) -/
theorem ok_low {P : Program} {w : World} {K : PySem.W.Frag} {mg : Str → Option Value} {base : Heap} {k : Nat} {f : Addr} {fd : FuncData} {ps : List Str} {sp sp' : Sp} (F : FnOk P w K mg base (L2N.CX P w) k f fd ps sp)
    (h : ∀ vs H Q E, sp' vs H Q E → sp vs H Q fun _ _ _ => False) : FnOk P w K mg base CX0 k f fd ps sp' :=
  ⟨fun vs H Q E z => F.len _ _ _ _ (h _ _ _ _ z), fun A outer s H args us vs Q E hr e0 b r z => codeAny_mono (F.run A outer s H args us vs Q _ hr e0 b r (h _ _ _ _ z)) fun res s' q => by
    match res, q with
    | .ok (.ret _), q => exact q
    | .ok .next, q => exact q.elim
    | .ok .brk, q => exact q.elim
    | .ok .cont, q => exact q.elim
    | .error _, ⟨_, _, _, _, _, _, _, _, _, _, _, _, z⟩ => exact z.elim⟩
def tMethS (C : Addr) (m : Str) (sp : Sp) (E : L2.St → XK) (ta : TE) (t : TA) : TE := fun σ H Q => ta σ H fun x H1 => ∃ a dx fs, x = .ref a ∧ H1 a = some (.ins C dx fs) ∧ fs.lookup m = none ∧ t σ H1 fun vs H2 => sp (x :: vs) H2 Q (E σ)
def tMakeS (C : Addr) (sp : Sp) (E : L2.St → XK) (t : TA) : TE := fun σ H Q => t σ H fun vs H1 => ∀ x dx, H1 x = none → H1 dx = none → dx ≠ x →
  sp (.ref x :: vs) (upd (upd H1 dx (.own x)) x (.ins C dx [])) (fun v H2 => v = .non ∧ Q (.ref x) H2) (E σ)
section
variable {X : Cx} {CX : CXT} {k : Nat} {f C : Addr} {fd : FuncData} {ps : List Str} {sp : Sp} {E : L2.St → XK} {x m : Str} {p pos apos : Pos} {e o : Expr} {es : List Expr} {ta : TE} {t : TA}
theorem pe_methS1 {pl : Sem Bool} (he : PE X o ta) (c : Cls X.K C) (hm : Meth X.K C m f) (F : FnOk X.prog X.w X.K X.mg X.base CX k f fd ps sp) (hr : Room k X.A) (hb : Binds X.K fd ps []) (hx : ∀ σ, PassesAt CX X σ (E σ)) (ha : PA X (e :: es) t)
    (hst : starEach (e :: es) X.env = (false, eval e X.env) :: starEach es X.env := by rfl) (hpl : (backTo pos (starEach es X.env)).any (·.1) = false := by rfl)
    (ht : eval (.Call (.Attribute o m apos) (e :: es) [] pos) X.env = (do
      let ov ← eval o X.env
      standAt apos.atName
      let (f, first) ← holding [ov] (getMethod ov m pl)
      callWith pos f first (backTo pos (starEach (e :: es) X.env)) (backToKw pos (keywordEach [] X.env))) := by rfl) :
    PE X (.Call (.Attribute o m apos) (e :: es) [] pos) (tMethS C m sp E ta t) := by
  refine ⟨fun pins s σ H Q I h => ?_⟩
  refine PySem.W.methodCall_KW (pl := pl) (thn (he.run pins s σ H _ I h) fun u s1 ⟨x, H1, I1, rx, a, dx, fs, ex, ea, l, q⟩ => ?_) ht
  subst ex
  obtain rfl : u = Value.ref a := rx
  refine getmeth_ok I1 ea c hm l ?_
  refine PySem.W.callWith_K (first := [.ref a]) (h₀ := X.base) I.ok.mod.kin hm.kp (thn (ha.run pos pins s1 σ H1 _ I1 q) fun us s2 ⟨vs, H2, I2, r, q2⟩ => ⟨I2.kIn, ?_⟩) hst hpl
  exact run_fnS (us := .ref a :: us) (vs := .ref a :: vs) F hr hb (hx σ) I2 (.cons rfl r) q2
theorem pe_methS0 {pl : Sem Bool} (he : PE X o ta) (c : Cls X.K C) (hm : Meth X.K C m f) (F : FnOk X.prog X.w X.K X.mg X.base CX k f fd ps sp) (hr : Room k X.A) (hb : Binds X.K fd ps []) (hx : ∀ σ, PassesAt CX X σ (E σ))
    (ht : eval (.Call (.Attribute o m apos) [] [] pos) X.env = (do
      let ov ← eval o X.env
      standAt apos.atName
      let (f, first) ← holding [ov] (getMethod ov m pl)
      callWith pos f first (backTo pos (starEach [] X.env)) (backToKw pos (keywordEach [] X.env))) := by rfl) :
    PE X (.Call (.Attribute o m apos) [] [] pos) (tMethS C m sp E ta tNil) := by
  refine ⟨fun pins s σ H Q I h => ?_⟩
  refine PySem.W.methodCall_KW (pl := pl) (thn (he.run pins s σ H _ I h) fun u s1 ⟨x, H1, I1, rx, a, dx, fs, ex, ea, l, q⟩ => ?_) ht
  subst ex
  obtain rfl : u = Value.ref a := rx
  refine getmeth_ok I1 ea c hm l ?_
  exact PySem.W.callWith_K0 (first := [.ref a]) I1.kIn hm.kp (run_fnS (us := [.ref a]) (vs := [.ref a]) F hr hb (hx σ) I1 (.cons rfl .nil) q)
theorem run_makeS {pins : List (Addr × Obj)} {σ : L2.St} {H : Hp} {s : Shared} {Q : VK} {us : List Value} {vs : List V} (M : Mk X.K C f) (F : FnOk X.prog X.w X.K X.mg X.base CX k f fd ps sp) (hr : Room (k + 1) X.A) (hb : Binds X.K fd ps [])
    (hx : PassesAt CX X σ (E σ)) (I : Inv X pins σ H s) (r : Vals vs us)
    (h : ∀ x dx, H x = none → H dx = none → dx ≠ x → sp (.ref x :: vs) (upd (upd H dx (.own x)) x (.ins C dx [])) (fun v H2 => v = .non ∧ Q (.ref x) H2) (E σ)) :
    wpAny (model X.prog X.w) X.A (call (.ref C) us) (EP X pins σ Q) X.xe s := by
  have hq := h (s.heap.objs.size + 1) s.heap.objs.size (I.hok.fresh (Nat.le_succ _)) (I.hok.fresh (Nat.le_refl _)) (Nat.ne_of_lt (Nat.lt_succ_self _))
  have I2 := Inv.made (C := C) I
  have r2 : Vals (V.ref (s.heap.objs.size + 1) :: vs) (Value.ref (s.heap.objs.size + 1) :: us) := .cons rfl r
  have hl : (Value.ref (s.heap.objs.size + 1) :: us ++ []).length = ps.length := by
    have e := r2.length
    rw [F.len _ _ _ _ hq] at e
    rw [List.append_nil]
    exact e.symm
  have b := hb _ (Value.ref (s.heap.objs.size + 1) :: us) I2.kIn hl
  rw [List.append_nil] at b
  refine wpAny_call (make_map (f := f) I.kIn M.makes M.init (beq_iff_eq.mp M.fn) (codeAny_mono (F.run _ X.stack _ _ ⟨Value.ref (s.heap.objs.size + 1) :: us, []⟩ (Value.ref (s.heap.objs.size + 1) :: us) _ _ (E σ) (hr.make C us [])
    (I2.env0.make C us []) b r2 hq) fun r s' hq' => ?_))
  cases r with
  | error e => exact hx pins _ _ e s' I2 hq'
  | ok fl =>
    cases fl with
    | ret u =>
      obtain ⟨v, H', I3, rv, ev, q3⟩ := I2.after hq'
      subst ev
      exact ⟨rv, ⟨V.ref (s.heap.objs.size + 1), H', I3, rfl, q3⟩⟩
    | next => exact False.elim hq'
    | brk => exact False.elim hq'
    | cont => exact False.elim hq'
theorem pe_makeS1 (M : Mk X.K C f) (F : FnOk X.prog X.w X.K X.mg X.base CX k f fd ps sp) (hr : Room (k + 1) X.A) (hg : Gl X x) (hm : X.mg x = some (.ref C)) (hb : Binds X.K fd ps []) (hx : ∀ σ, PassesAt CX X σ (E σ))
    (ha : PA X (e :: es) t) (hdb : (x == ("__debug__" : Str)) = false := by decide) (he : starEach (e :: es) X.env = (false, eval e X.env) :: starEach es X.env := by rfl) (hpl : (backTo pos (starEach es X.env)).any (·.1) = false := by rfl) :
    PE X (.Call (.Name x p) (e :: es) [] pos) (tMakeS C sp E t) := by
  refine ⟨fun pins s σ H Q I h => ?_⟩
  refine wpAny_Call_Name_kw (ld_glob I hg hm ?_ hdb)
  refine PySem.W.callWith_K (h₀ := X.base) I.ok.mod.kin M.kp (thn (ha.run pos pins s σ H _ I h) fun us s1 ⟨vs, H1, I1, r, q⟩ => ⟨I1.kIn, ?_⟩) he hpl
  exact run_makeS M F hr hb (hx σ) I1 r q
/-- X(e), where what is made keeps no context -/
theorem pmk_own1N {bmB : List Value} {B newId initId : String} (F : ExcBaseFacts B newId initId bmB) (q : PySem.W.excIn X.K C bmB newId = true) (gC : X.mg x = some (.ref C)) (kC : PySem.W.keepIn X.K (.ref C) = true) (r : Raises X (.ref C)) (hg : Gl X x)
    (he : PE X e ta) (hs : starEach [e] X.env = (false, eval e X.env) :: starEach [] X.env := by rfl) (hdb : (x == ("__debug__" : Str)) = false := by decide) :
    L2N.PMk X (.Call (.Name x p) [e] [] pos) (fun σ H Q => ta σ H fun _ H1 => Q (.ref C) none H1) := by
  intro pins s σ H Q I h
  refine wpAny_Call_Name_kw (ld_glob I hg gC ?_ hdb)
  refine PySem.W.callWith_K (h₀ := X.base) I.ok.mod.kin kC ?_ hs (by rfl)
  rw [hs]
  show wpAny _ _ (spliced ((false, eval e X.env) :: backTo pos (starEach [] X.env))) _ _ s
  refine Calls.spliced_cons (thn (he.run pins s σ H _ I h) fun u s1 ⟨v, H1, I1, r1, q1⟩ => ?_)
  refine Calls.spliced_nil ⟨I1.kIn, ?_⟩
  show wpAny _ _ (call (.ref C) [u]) _ _ _
  obtain ⟨bm, N, nm, qn, bs, hdct, sn, sub, ab, col, dd, k0, k1, k2, k3, k5, mN, hC, hN, hni, T⟩ := exc_obj I1.kIn q
  refine wpAny_call_exc_subT F T hC hN hni (fun h' e hm => ?_) (by show 1 ≤ sizeLine; rw [sizeLine_eq]; omega)
  exact L2N.mk_of I1 hm r q1 (I1.hok.gone hm.new)
theorem op_mul_str : OpR X (binaryOp .Mult) (fun x y H Q => ∃ (z : Str) (n : Int), x = .str z ∧ y = .int n ∧ MulOk z n ∧ Q (.str (Txt.mul z n)) H) := by
  intro pins s σ H x y v u Q I rx ry h
  obtain ⟨z, n, rfl, rfl, ok, q⟩ := h
  obtain ⟨t, rfl⟩ := rx
  obtain ⟨t', rfl⟩ := ry
  exact PySem.SB.mul ok fun t2 k => ⟨.str _, H, I.kept (t' := k) fun _ _ e => e, ⟨_, rfl⟩, q⟩
end
section steps
variable {σ : L2.St} {H : Hp} {D : Ends}
theorem w_methS {C : Addr} {m : Str} {sp : Sp} {E : L2.St → XK} {ta : TE} {t : TA} {Q : VK} (h : ta σ H fun x H1 => ∃ a dx fs, x = .ref a ∧ H1 a = some (.ins C dx fs) ∧ fs.lookup m = none ∧ t σ H1 fun vs H2 => sp (x :: vs) H2 Q (E σ)) : tMethS C m sp E ta t σ H Q := h
theorem w_makeS {C : Addr} {sp : Sp} {E : L2.St → XK} {t : TA} {Q : VK} (h : t σ H fun vs H1 => ∀ x dx, H1 x = none → H1 dx = none → dx ≠ x → sp (.ref x :: vs) (upd (upd H1 dx (.own x)) x (.ins C dx [])) (fun v H2 => v = .non ∧ Q (.ref x) H2) (E σ)) : tMakeS C sp E t σ H Q := h
theorem w_dictD {a : Addr} {kvs : List (Key × V)} {R : List (Key × V) → Addr → Prop} (h : H a = some (.dK kvs)) (k : ∀ p, H p = none → R kvs p) : ∃ (b : Addr) (ks : List (Key × V)), [V.ref a] = [.ref b] ∧ Rd H b (.dK ks) ∧ ∀ p, H p = none → R ks p := ⟨a, kvs, rfl, Rd.of h, k⟩
theorem w_isD {a : Addr} {kvs : List (Key × V)} {P : Addr → Prop} (h : H a = some (.dK kvs)) (k : P a) : ∃ b, V.ref a = .ref b ∧ IsD H b ∧ P b := ⟨a, rfl, .inl ⟨kvs, Rd.of h⟩, k⟩
theorem w_dpop {td ty : TE} {Q : VK} (h : td σ H fun x H1 => ∃ a, x = .ref a ∧ IsD H1 a ∧ ty σ H1 fun y H2 => ∃ kvs k v, H2 a = some (.dK kvs) ∧ y = kV k ∧ valV kvs k = some v ∧ Q v (upd H2 a (.dK (dropK kvs k)))) : tDPop1 td ty σ H Q := h
theorem w_dpopS {a : Addr} {kvs : List (Key × V)} {x : Str} {v : V} {R : List (Key × V) → Key → V → Prop} (h : H a = some (.dK kvs)) (e : valV kvs (Sum.inr x : Key) = some v) (k : R kvs (Sum.inr x) v) :
    ∃ kvs k v, H a = some (.dK kvs) ∧ V.str x = kV k ∧ valV kvs k = some v ∧ R kvs k v := ⟨kvs, Sum.inr x, v, h, rfl, e, k⟩
end steps
theorem _root_.L2.Fun.okN {P : Program} {w : World} {K : PySem.W.Frag} {mg : Str → Option Value} {base : Heap} {x qual : Str} {st : Stmt} {f : Addr} {fd : FuncData} {N ps : List Str} {k : Nat} {sp : Sp} (F : Fun K x qual st f fd) (S : FnScope N ps (defScope st)) (len : ∀ vs H Q E, sp vs H Q E → vs.length = ps.length)
    (hbody : ∀ (cdv : Value) (A : Around) (outer : List Env) (s : Shared) (H : Hp) (vs : List V) (Q : VK) (E : XK), Room k (A.deeper (envOfC qual (defScope st) s.heap.objs.size f cdv)) → sp vs H Q E →
      ∃ t, PSs (cxOf (L2N.CX P w) P w K mg base N qual (defScope st) f cdv A outer s H E) (defBody st) t ∧ t { nx := fun _ H' => Q .non H', rt := Q } (start N vs) H) : FnOk P w K mg base (L2N.CX P w) (k + 1) f fd ps sp := by
  obtain ⟨oc, od, kV, doc, pm, an, cdv, ct, osl, rfl, lk, hcd⟩ := F.ex
  exact fn_of lk hcd S len fun A outer s H vs Q E hr hsp => hbody cdv A outer s H vs Q E hr hsp
theorem w_notT {K : PySem.W.Frag} {ta : TE} {σ : L2.St} {H : Hp} {Q : VK} (h : ta σ H fun x H1 => ∃ k, TruV K x H1 k ∧ Q (.bl (!k)) H1) : tNotT K ta σ H Q := h
section steps
variable {H : Hp} {K : PySem.W.Frag}
theorem w_isiI {i : Int} {n : String} {b : Bool} {Q : VK} (k : kitB "int" n = some b) (q : Q (.bl b) H) : rIsi K [.int i, .ty n] H Q := ⟨_, _, .type "int", .type n, b, rfl, .ty n, .base (.int _), kit_ty k, q⟩
theorem w_isiB {i : Bool} {n : String} {b : Bool} {Q : VK} (k : kitB "bool" n = some b) (q : Q (.bl b) H) : rIsi K [.bl i, .ty n] H Q := ⟨_, _, .type "bool", .type n, b, rfl, .ty n, .base (.bl _), kit_ty k, q⟩
theorem w_isiS {i : Str} {n : String} {b : Bool} {Q : VK} (k : kitB "str" n = some b) (q : Q (.bl b) H) : rIsi K [.str i, .ty n] H Q := ⟨_, _, .type "str", .type n, b, rfl, .ty n, .base (.str _), kit_ty k, q⟩
theorem w_isiN {n : String} {b : Bool} {Q : VK} (k : kitB "NoneType" n = some b) (q : Q (.bl b) H) : rIsi K [.non, .ty n] H Q := ⟨_, _, .type "NoneType", .type n, b, rfl, .ty n, .base .non, kit_ty k, q⟩
theorem w_isiL {a : Addr} {xs : List V} {n : String} {b : Bool} {Q : VK} (h : H a = some (.lst xs)) (k : kitB "list" n = some b) (q : Q (.bl b) H) : rIsi K [.ref a, .ty n] H Q := ⟨_, _, .type "list", .type n, b, rfl, .ty n, .base (.lst h), kit_ty k, q⟩
theorem w_isiT {a : Addr} {xs : List V} {n : String} {b : Bool} {Q : VK} (h : H a = some (.tup xs)) (k : kitB "tuple" n = some b) (q : Q (.bl b) H) : rIsi K [.ref a, .ty n] H Q := ⟨_, _, .type "tuple", .type n, b, rfl, .ty n, tyT (SqT.of h), kit_ty k, q⟩
theorem w_trL {a : Addr} {xs : List V} {P : Bool → Prop} (h : H a = some (.lst xs)) (k : P (!xs.isEmpty)) : ∃ c, TruV K (.ref a) H c ∧ P c := ⟨_, .inl ⟨_, SqL.of h, rfl⟩, k⟩
end steps
theorem w_chain {r r' : R2} {ta tb tc : TE} {σ : L2.St} {H : Hp} {Q : VK} (h : ta σ H fun x H1 => tb σ H1 fun y H2 => r x y H2 fun z H3 => ∃ k, z = .bl k ∧ (if k = true then tc σ H3 fun w' H4 => r' y w' H4 Q else Q (.bl false) H3)) : tChain r r' ta tb tc σ H Q := h
theorem mkS_app (a b : List Nat) : mkS a ++ mkS b = mkS (a ++ b) := TL.ext_tl (by rw [TL.tl_append])
section steps
variable {σ : L2.St} {H : Hp} {K : PySem.W.Frag}
theorem w_gTup {n : Nat} {g : TGs} {a : Addr} {xs : List V} {Q : L2.St → Hp → Prop} (h : H a = some (.tup xs)) (l : xs.length = n) (k : g xs σ H Q) : gTup K n g (.ref a) σ H Q := ⟨a, xs, rfl, SqT.of h, l, k⟩
theorem w_gLst {n : Nat} {g : TGs} {a : Addr} {xs : List V} {Q : L2.St → Hp → Prop} (h : H a = some (.lst xs)) (l : xs.length = n) (k : g xs σ H Q) : gLst K n g (.ref a) σ H Q := ⟨a, xs, rfl, SqL.of h, l, k⟩
theorem w_gCons {t : TG} {u : TGs} {v : V} {r : List V} {Q : L2.St → Hp → Prop} (h : t v σ H fun σ' H' => u r σ' H' Q) : gCons t u (v :: r) σ H Q := ⟨v, r, rfl, h⟩
theorem w_gNil {Q : L2.St → Hp → Prop} (h : Q σ H) : gNil [] σ H Q := ⟨rfl, h⟩
end steps
/-! ### dicts by index, dicts of texts -/
def kvI (l : List V) : List (Key × V) := l.zipIdx.map fun p => ((Sum.inl (p.2 : Int) : Key), p.1)
def kvIn (n : Nat) (l : List V) : List (Key × V) := (l.zipIdx n).map fun p => ((Sum.inl (p.2 : Int) : Key), p.1)
theorem kvIn_cons (n : Nat) (a : V) (r : List V) : kvIn n (a :: r) = ((Sum.inl (n : Int) : Key), a) :: kvIn (n + 1) r := rfl
theorem kvIn_val : ∀ (l : List V) (n i : Nat), valV (kvIn n l) (Sum.inl ((n + i : Nat) : Int)) = l[i]?
  | [], _, _ => rfl
  | a :: r, n, 0 => valV_pos rfl
  | a :: r, n, i + 1 => by
    rw [kvIn_cons, valV_neg (by intro z; have := Sum.inl.inj z; omega), show n + (i + 1) = (n + 1) + i by omega, kvIn_val r (n + 1) i]
    rfl
theorem kvI_val (l : List V) (i : Nat) : valV (kvI l) (Sum.inl (i : Int)) = l[i]? := by
  have := kvIn_val l 0 i
  rw [Nat.zero_add] at this
  exact this
theorem kvI_get {l : List V} {i : Nat} {v : V} (h : l[i]? = some v) : valV (kvI l) (Sum.inl (i : Int)) = some v := by rw [kvI_val]; exact h
theorem kvI_len (l : List V) : (kvI l).length = l.length := by unfold kvI; rw [List.length_map, List.length_zipIdx]
theorem kvIn_any : ∀ (l : List V) (n i : Nat), ((kvIn n l).any fun kv => decide (kv.1 = (Sum.inl ((n + i : Nat) : Int) : Key))) = decide (i < l.length)
  | [], _, _ => rfl
  | a :: r, n, 0 => by rw [kvIn_cons, List.any_cons]; simp
  | a :: r, n, i + 1 => by
    rw [kvIn_cons, List.any_cons, show n + (i + 1) = (n + 1) + i by omega, kvIn_any r (n + 1) i, List.length_cons]
    have : decide ((Sum.inl (n : Int) : Key) = Sum.inl ((n + 1 + i : Nat) : Int)) = false := decide_eq_false fun z => by have := Sum.inl.inj z; omega
    rw [this, Bool.false_or]
    rw [Bool.eq_iff_iff, decide_eq_true_eq, decide_eq_true_eq]
    omega
theorem kvIn_map : ∀ (l : List V) (n i : Nat) (v : V), (kvIn n l).map (fun kv => if kv.1 = (Sum.inl ((n + i : Nat) : Int) : Key) then (kv.1, v) else kv) = kvIn n (l.set i v)
  | [], _, _, _ => rfl
  | a :: r, n, 0, v => by
    rw [kvIn_cons, List.map_cons, List.set_cons_zero, kvIn_cons, if_pos (show (Sum.inl (n : Int) : Key) = Sum.inl ((n + 0 : Nat) : Int) from rfl)]
    congr 1
    have : ∀ (r : List V) (m : Nat), n + 0 < m → (kvIn m r).map (fun kv => if kv.1 = (Sum.inl ((n + 0 : Nat) : Int) : Key) then (kv.1, v) else kv) = kvIn m r := by
      intro r
      induction r with
      | nil => intro m _; rfl
      | cons b s ih =>
        intro m hm
        rw [kvIn_cons, List.map_cons, if_neg (by intro z; have := Sum.inl.inj z; omega), ih (m + 1) (by omega)]
    exact this r (n + 1) (by omega)
  | a :: r, n, i + 1, v => by
    rw [kvIn_cons, List.map_cons, List.set_cons_succ, kvIn_cons, if_neg (by intro z; have := Sum.inl.inj z; omega), show n + (i + 1) = (n + 1) + i by omega, kvIn_map r (n + 1) i v]
theorem kvI_put {l : List V} {i : Nat} {v : V} (h : i < l.length) : putK (kvI l) (Sum.inl (i : Int)) v = kvI (l.set i v) := by
  have e1 := kvIn_any l 0 i
  have e2 := kvIn_map l 0 i v
  rw [Nat.zero_add] at e1 e2
  unfold putK
  show (if ((kvIn 0 l).any fun kv => decide (kv.1 = (Sum.inl ((i : Nat) : Int) : Key))) = true then (kvIn 0 l).map (fun kv => if kv.1 = (Sum.inl ((i : Nat) : Int) : Key) then (kv.1, v) else kv) else _) = kvIn 0 (l.set i v)
  rw [e1, if_pos (decide_eq_true h), e2]
theorem kvI_end {l : List V} {v : V} : putK (kvI l) (Sum.inl (l.length : Int)) v = kvI (l ++ [v]) := by
  have e1 := kvIn_any l 0 l.length
  rw [Nat.zero_add] at e1
  unfold putK
  show (if ((kvIn 0 l).any fun kv => decide (kv.1 = (Sum.inl ((l.length : Nat) : Int) : Key))) = true then _ else kvIn 0 l ++ [(Sum.inl ((l.length : Nat) : Int), v)]) = kvIn 0 (l ++ [v])
  rw [e1, if_neg (by simp)]
  unfold kvIn
  rw [List.zipIdx_append, List.map_append]
  simp
def kvN (l : List (List Nat × Nat)) : List (Key × V) := l.map fun p => ((Sum.inr (mkS p.1) : Key), V.int p.2)
theorem mkS_inj {a b : List Nat} (h : mkS a = mkS b) : a = b := by
  have := congrArg tl h
  exact this
theorem kvN_val : ∀ (l : List (List Nat × Nat)) (x : List Nat), valV (kvN l) (Sum.inr (mkS x)) = (l.lookup x).map fun n => V.int n
  | [], _ => rfl
  | (y, n) :: r, x => by
    show valV (((Sum.inr (mkS y) : Key), V.int n) :: kvN r) _ = _
    by_cases e : y = x
    · subst e
      rw [valV_pos rfl, List.lookup_cons, show (y == y) = true by simp]
      rfl
    · rw [valV_neg (by intro z; exact e (mkS_inj (Sum.inr.inj z))), kvN_val r x, List.lookup_cons, show (x == y) = false by simpa using fun z : x = y => e z.symm]
theorem kvN_len (l : List (List Nat × Nat)) : (kvN l).length = l.length := by unfold kvN; rw [List.length_map]
theorem kvN_put {l : List (List Nat × Nat)} {x : List Nat} {n : Nat} (h : l.lookup x = none) : putK (kvN l) (Sum.inr (mkS x)) (.int n) = kvN (l ++ [(x, n)]) := by
  unfold putK
  rw [valV_any, kvN_val, h, if_neg (by simp)]
  unfold kvN
  rw [List.map_append]; rfl
theorem kvN_drop (l : List (List Nat × Nat)) (x : List Nat) : dropK (kvN l) (Sum.inr (mkS x)) = kvN (l.filter fun p => decide (p.1 ≠ x)) := by
  unfold dropK kvN
  rw [List.filter_map]
  congr 1
  apply List.filter_congr
  intro p _
  show decide ((Sum.inr (mkS p.1) : Key) ≠ Sum.inr (mkS x)) = decide (p.1 ≠ x)
  rw [Bool.eq_iff_iff, decide_eq_true_eq, decide_eq_true_eq]
  exact ⟨fun z y => z (by rw [y]), fun z y => z (mkS_inj (Sum.inr.inj y))⟩
theorem kvN_keys (l : List (List Nat × Nat)) : (kvN l).map (·.1) = (l.map fun p => mkS p.1).map Sum.inr := by
  unfold kvN
  rw [List.map_map, List.map_map]
  rfl

/-- an own class's instances, for isinstance -/
structure IsIns (K : PySem.W.Frag) (C : Addr) : Prop where
  ha : PySem.W.findIn K (.ref C) "__class__" = some (some (.builtin "object.__class__"))
  hn : PySem.W.specialIn K (.builtin "object.__class__") "__get__" = some (some (.builtin "getset_descriptor.__get__"))
  htk : PySem.W.takesIn K (.builtin "object.__class__") = some true
  hm : PySem.W.mroIn K C (.type "object") = some true
  kS : PySem.W.kitOne K (.ref C) (.type "str") = some false
theorem w_isiO {K : PySem.W.Frag} {H : Hp} {a C dx : Addr} {fs : List (Str × V)} {Q : VK} (h : H a = some (.ins C dx fs)) (cl : Cls K C) (i : IsIns K C) (q : Q (.bl false) H) : rIsi K [.ref a, .ty "str"] H Q := ⟨_, _, .ref C, .type "str", false, rfl, .ty "str", .base (.ins h cl i.ha i.hn i.htk i.hm), i.kS, q⟩
/-- what the top holds -/
structure Nms (K : PySem.W.Frag) (mg : Str → Option Value) where
  T : Blt mg
  a_is_number : Addr
  d_is_number : FuncData
  b_is_number : Binds K d_is_number ["value", "least", "most"] []
  k_is_number : PySem.W.keepIn K (.ref a_is_number) = true
  F_is_number : ∃ dvs, FunD K "is_number" "is_number" (defArgs s_is_number) (defBody s_is_number) (defScope s_is_number) dvs [] a_is_number d_is_number
  g_is_number : mg "is_number" = some (.ref a_is_number)
  a_Disk___init__ : Addr
  d_Disk___init__ : FuncData
  b_Disk___init__ : Binds K d_Disk___init__ ["self"] []
  k_Disk___init__ : PySem.W.keepIn K (.ref a_Disk___init__) = true
  F_Disk___init__ : Fun K "__init__" "Disk.__init__" s_Disk___init__ a_Disk___init__ d_Disk___init__
  a_Disk_names : Addr
  d_Disk_names : FuncData
  b_Disk_names : Binds K d_Disk_names ["self"] []
  k_Disk_names : PySem.W.keepIn K (.ref a_Disk_names) = true
  F_Disk_names : Fun K "names" "Disk.names" s_Disk_names a_Disk_names d_Disk_names
  a_Disk_has : Addr
  d_Disk_has : FuncData
  b_Disk_has : Binds K d_Disk_has ["self", "name"] []
  k_Disk_has : PySem.W.keepIn K (.ref a_Disk_has) = true
  F_Disk_has : Fun K "has" "Disk.has" s_Disk_has a_Disk_has d_Disk_has
  a_Disk__file : Addr
  d_Disk__file : FuncData
  b_Disk__file : Binds K d_Disk__file ["self", "name"] []
  k_Disk__file : PySem.W.keepIn K (.ref a_Disk__file) = true
  F_Disk__file : Fun K "_file" "Disk._file" s_Disk__file a_Disk__file d_Disk__file
  a_Disk_read : Addr
  d_Disk_read : FuncData
  b_Disk_read : Binds K d_Disk_read ["self", "name"] []
  k_Disk_read : PySem.W.keepIn K (.ref a_Disk_read) = true
  F_Disk_read : Fun K "read" "Disk.read" s_Disk_read a_Disk_read d_Disk_read
  a_Disk_size : Addr
  d_Disk_size : FuncData
  b_Disk_size : Binds K d_Disk_size ["self", "name"] []
  k_Disk_size : PySem.W.keepIn K (.ref a_Disk_size) = true
  F_Disk_size : Fun K "size" "Disk.size" s_Disk_size a_Disk_size d_Disk_size
  a_Disk_sure : Addr
  d_Disk_sure : FuncData
  b_Disk_sure : Binds K d_Disk_sure ["self", "name"] []
  k_Disk_sure : PySem.W.keepIn K (.ref a_Disk_sure) = true
  F_Disk_sure : Fun K "sure" "Disk.sure" s_Disk_sure a_Disk_sure d_Disk_sure
  a_Disk_make : Addr
  d_Disk_make : FuncData
  b_Disk_make : Binds K d_Disk_make ["self", "name"] []
  k_Disk_make : PySem.W.keepIn K (.ref a_Disk_make) = true
  F_Disk_make : Fun K "make" "Disk.make" s_Disk_make a_Disk_make d_Disk_make
  a_Disk__change : Addr
  d_Disk__change : FuncData
  b_Disk__change : Binds K d_Disk__change ["self", "row"] []
  k_Disk__change : PySem.W.keepIn K (.ref a_Disk__change) = true
  F_Disk__change : Fun K "_change" "Disk._change" s_Disk__change a_Disk__change d_Disk__change
  a_Disk_write : Addr
  d_Disk_write : FuncData
  b_Disk_write : Binds K d_Disk_write ["self", "name", "text"] []
  k_Disk_write : PySem.W.keepIn K (.ref a_Disk_write) = true
  F_Disk_write : Fun K "write" "Disk.write" s_Disk_write a_Disk_write d_Disk_write
  a_Disk_sync : Addr
  d_Disk_sync : FuncData
  b_Disk_sync : Binds K d_Disk_sync ["self", "name"] []
  k_Disk_sync : PySem.W.keepIn K (.ref a_Disk_sync) = true
  F_Disk_sync : Fun K "sync" "Disk.sync" s_Disk_sync a_Disk_sync d_Disk_sync
  a_Disk_sync_names : Addr
  d_Disk_sync_names : FuncData
  b_Disk_sync_names : Binds K d_Disk_sync_names ["self"] []
  k_Disk_sync_names : PySem.W.keepIn K (.ref a_Disk_sync_names) = true
  F_Disk_sync_names : Fun K "sync_names" "Disk.sync_names" s_Disk_sync_names a_Disk_sync_names d_Disk_sync_names
  a_Disk_move : Addr
  d_Disk_move : FuncData
  b_Disk_move : Binds K d_Disk_move ["self", "one", "other"] []
  k_Disk_move : PySem.W.keepIn K (.ref a_Disk_move) = true
  F_Disk_move : Fun K "move" "Disk.move" s_Disk_move a_Disk_move d_Disk_move
  a_Disk_remove : Addr
  d_Disk_remove : FuncData
  b_Disk_remove : Binds K d_Disk_remove ["self", "name"] []
  k_Disk_remove : PySem.W.keepIn K (.ref a_Disk_remove) = true
  F_Disk_remove : Fun K "remove" "Disk.remove" s_Disk_remove a_Disk_remove d_Disk_remove
  a_Disk_cut : Addr
  d_Disk_cut : FuncData
  b_Disk_cut : Binds K d_Disk_cut ["self", "name", "size"] []
  k_Disk_cut : PySem.W.keepIn K (.ref a_Disk_cut) = true
  F_Disk_cut : Fun K "cut" "Disk.cut" s_Disk_cut a_Disk_cut d_Disk_cut
  a_Disk_late_changes : Addr
  d_Disk_late_changes : FuncData
  b_Disk_late_changes : Binds K d_Disk_late_changes ["self"] []
  k_Disk_late_changes : PySem.W.keepIn K (.ref a_Disk_late_changes) = true
  F_Disk_late_changes : Fun K "late_changes" "Disk.late_changes" s_Disk_late_changes a_Disk_late_changes d_Disk_late_changes
  a_Disk_late_size : Addr
  d_Disk_late_size : FuncData
  b_Disk_late_size : Binds K d_Disk_late_size ["self", "name"] []
  k_Disk_late_size : PySem.W.keepIn K (.ref a_Disk_late_size) = true
  F_Disk_late_size : Fun K "late_size" "Disk.late_size" s_Disk_late_size a_Disk_late_size d_Disk_late_size
  a_Disk_late_files : Addr
  d_Disk_late_files : FuncData
  b_Disk_late_files : Binds K d_Disk_late_files ["self"] []
  k_Disk_late_files : PySem.W.keepIn K (.ref a_Disk_late_files) = true
  F_Disk_late_files : Fun K "late_files" "Disk.late_files" s_Disk_late_files a_Disk_late_files d_Disk_late_files
  a_Disk_copy : Addr
  d_Disk_copy : FuncData
  b_Disk_copy : Binds K d_Disk_copy ["self"] []
  k_Disk_copy : PySem.W.keepIn K (.ref a_Disk_copy) = true
  F_Disk_copy : Fun K "copy" "Disk.copy" s_Disk_copy a_Disk_copy d_Disk_copy
  a_Disk_cut_off : Addr
  d_Disk_cut_off : FuncData
  b_Disk_cut_off : Binds K d_Disk_cut_off ["self", "changes", "tears"] []
  k_Disk_cut_off : PySem.W.keepIn K (.ref a_Disk_cut_off) = true
  F_Disk_cut_off : Fun K "cut_off" "Disk.cut_off" s_Disk_cut_off a_Disk_cut_off d_Disk_cut_off
  a_applied : Addr
  d_applied : FuncData
  b_applied : Binds K d_applied ["names", "changes"] []
  k_applied : PySem.W.keepIn K (.ref a_applied) = true
  F_applied : Fun K "applied" "applied" s_applied a_applied d_applied
  g_applied : mg "applied" = some (.ref a_applied)
  a_checked_tears : Addr
  d_checked_tears : FuncData
  b_checked_tears : Binds K d_checked_tears ["disk", "changes", "tears"] []
  k_checked_tears : PySem.W.keepIn K (.ref a_checked_tears) = true
  F_checked_tears : Fun K "checked_tears" "checked_tears" s_checked_tears a_checked_tears d_checked_tears
  g_checked_tears : mg "checked_tears" = some (.ref a_checked_tears)
  a_nothing_lost : Addr
  d_nothing_lost : FuncData
  b_nothing_lost : Binds K d_nothing_lost ["disk"] []
  k_nothing_lost : PySem.W.keepIn K (.ref a_nothing_lost) = true
  F_nothing_lost : Fun K "nothing_lost" "nothing_lost" s_nothing_lost a_nothing_lost d_nothing_lost
  g_nothing_lost : mg "nothing_lost" = some (.ref a_nothing_lost)
  a_all_lost : Addr
  d_all_lost : FuncData
  b_all_lost : Binds K d_all_lost ["disk"] []
  k_all_lost : PySem.W.keepIn K (.ref a_all_lost) = true
  F_all_lost : Fun K "all_lost" "all_lost" s_all_lost a_all_lost d_all_lost
  g_all_lost : mg "all_lost" = some (.ref a_all_lost)
  a_alike : Addr
  d_alike : FuncData
  b_alike : Binds K d_alike ["one", "other"] []
  k_alike : PySem.W.keepIn K (.ref a_alike) = true
  F_alike : Fun K "alike" "alike" s_alike a_alike d_alike
  g_alike : mg "alike" = some (.ref a_alike)
  a__law_same : Addr
  d__law_same : FuncData
  b__law_same : Binds K d__law_same ["actual", "due"] []
  k__law_same : PySem.W.keepIn K (.ref a__law_same) = true
  F__law_same : Fun K "_law_same" "_law_same" s__law_same a__law_same d__law_same
  g__law_same : mg "_law_same" = some (.ref a__law_same)
  a__law_pool : Addr
  d__law_pool : FuncData
  b__law_pool : Binds K d__law_pool ["script"] []
  k__law_pool : PySem.W.keepIn K (.ref a__law_pool) = true
  F__law_pool : Fun K "_law_pool" "_law_pool" s__law_pool a__law_pool d__law_pool
  g__law_pool : mg "_law_pool" = some (.ref a__law_pool)
  a__law_draw : Addr
  d__law_draw : FuncData
  b__law_draw : Binds K d__law_draw ["pool", "many"] []
  k__law_draw : PySem.W.keepIn K (.ref a__law_draw) = true
  F__law_draw : Fun K "_law_draw" "_law_draw" s__law_draw a__law_draw d__law_draw
  g__law_draw : mg "_law_draw" = some (.ref a__law_draw)
  a__law_pick : Addr
  d__law_pick : FuncData
  b__law_pick : Binds K d__law_pick ["pool", "rows"] []
  k__law_pick : PySem.W.keepIn K (.ref a__law_pick) = true
  F__law_pick : Fun K "_law_pick" "_law_pick" s__law_pick a__law_pick d__law_pick
  g__law_pick : mg "_law_pick" = some (.ref a__law_pick)
  a__law_refusal : Addr
  d__law_refusal : FuncData
  b__law_refusal : Binds K d__law_refusal ["problem"] []
  k__law_refusal : PySem.W.keepIn K (.ref a__law_refusal) = true
  F__law_refusal : Fun K "_law_refusal" "_law_refusal" s__law_refusal a__law_refusal d__law_refusal
  g__law_refusal : mg "_law_refusal" = some (.ref a__law_refusal)
  a__law_names_after : Addr
  d__law_names_after : FuncData
  b__law_names_after : Binds K d__law_names_after ["names", "changes"] []
  k__law_names_after : PySem.W.keepIn K (.ref a__law_names_after) = true
  F__law_names_after : Fun K "_law_names_after" "_law_names_after" s__law_names_after a__law_names_after d__law_names_after
  g__law_names_after : mg "_law_names_after" = some (.ref a__law_names_after)
  a__law_do : Addr
  d__law_do : FuncData
  b__law_do : Binds K d__law_do ["disk", "row"] []
  k__law_do : PySem.W.keepIn K (.ref a__law_do) = true
  F__law_do : Fun K "_law_do" "_law_do" s__law_do a__law_do d__law_do
  g__law_do : mg "_law_do" = some (.ref a__law_do)
  a__law_plain : Addr
  d__law_plain : FuncData
  b__law_plain : Binds K d__law_plain ["here", "row"] []
  k__law_plain : PySem.W.keepIn K (.ref a__law_plain) = true
  F__law_plain : Fun K "_law_plain" "_law_plain" s__law_plain a__law_plain d__law_plain
  g__law_plain : mg "_law_plain" = some (.ref a__law_plain)
  a__law_stands : Addr
  d__law_stands : FuncData
  b__law_stands : Binds K d__law_stands ["disk", "here"] []
  k__law_stands : PySem.W.keepIn K (.ref a__law_stands) = true
  F__law_stands : Fun K "_law_stands" "_law_stands" s__law_stands a__law_stands d__law_stands
  g__law_stands : mg "_law_stands" = some (.ref a__law_stands)
  a__law_found_right : Addr
  d__law_found_right : FuncData
  b__law_found_right : Binds K d__law_found_right ["found", "here", "changes", "tears"] []
  k__law_found_right : PySem.W.keepIn K (.ref a__law_found_right) = true
  F__law_found_right : Fun K "_law_found_right" "_law_found_right" s__law_found_right a__law_found_right d__law_found_right
  g__law_found_right : mg "_law_found_right" = some (.ref a__law_found_right)
  a__law_cut : Addr
  d__law_cut : FuncData
  b__law_cut : Binds K d__law_cut ["disk", "changes", "tears"] []
  k__law_cut : PySem.W.keepIn K (.ref a__law_cut) = true
  F__law_cut : Fun K "_law_cut" "_law_cut" s__law_cut a__law_cut d__law_cut
  g__law_cut : mg "_law_cut" = some (.ref a__law_cut)
  a_law : Addr
  d_law : FuncData
  b_law : Binds K d_law ["script"] []
  k_law : PySem.W.keepIn K (.ref a_law) = true
  F_law : Fun K "law" "law" s_law a_law d_law
  g_law : mg "law" = some (.ref a_law)
  CD : Addr
  gD : mg "Disk" = some (.ref CD)
  clD : Cls K CD
  nD_kept : NoAttr K CD "_kept"
  nD_late : NoAttr K CD "_late"
  nD_names : NoAttr K CD "_names"
  nD_sure : NoAttr K CD "_sure"
  nD_changes : NoAttr K CD "_changes"
  nD_next : NoAttr K CD "_next"
  mkD : Mk K CD a_Disk___init__
  isD : IsIns K CD
  m_Disk_names : Meth K CD "names" a_Disk_names
  m_Disk_has : Meth K CD "has" a_Disk_has
  m_Disk__file : Meth K CD "_file" a_Disk__file
  m_Disk_read : Meth K CD "read" a_Disk_read
  m_Disk_size : Meth K CD "size" a_Disk_size
  m_Disk_sure : Meth K CD "sure" a_Disk_sure
  m_Disk_make : Meth K CD "make" a_Disk_make
  m_Disk__change : Meth K CD "_change" a_Disk__change
  m_Disk_write : Meth K CD "write" a_Disk_write
  m_Disk_sync : Meth K CD "sync" a_Disk_sync
  m_Disk_sync_names : Meth K CD "sync_names" a_Disk_sync_names
  m_Disk_move : Meth K CD "move" a_Disk_move
  m_Disk_remove : Meth K CD "remove" a_Disk_remove
  m_Disk_cut : Meth K CD "cut" a_Disk_cut
  m_Disk_late_changes : Meth K CD "late_changes" a_Disk_late_changes
  m_Disk_late_size : Meth K CD "late_size" a_Disk_late_size
  m_Disk_late_files : Meth K CD "late_files" a_Disk_late_files
  m_Disk_copy : Meth K CD "copy" a_Disk_copy
  m_Disk_cut_off : Meth K CD "cut_off" a_Disk_cut_off
  CE : Addr
  CP : Addr
  CU : Addr
  XP : ErrT K mg "InvalidPaper" CP
  XU : ErrT K mg "UnknownName" CU
  YP : CatchT K mg CE CP
  YU : CatchT K mg CE CU
  notUP : PySem.W.kitOne K (.ref CP) (.ref CU) = some false
  notPU : PySem.W.kitOne K (.ref CU) (.ref CP) = some false
  cSP : ∃ t, mg "SPOILT" = some (.str (Str.ofString "?") t)
end K50

namespace K50
open PySem PySem.Spec PyProof.Rows L2
/-! ### lists of keys and values -/
section assoc
variable {α β : Type} [DecidableEq α]
def getA : List (α × β) → α → Option β
  | [], _ => none
  | p :: r, x => if p.1 = x then some p.2 else getA r x
def hasA (l : List (α × β)) (x : α) : Bool := (getA l x).isSome
def putA (l : List (α × β)) (x : α) (v : β) : List (α × β) := if hasA l x = true then l.map (fun p => if p.1 = x then (p.1, v) else p) else l ++ [(x, v)]
def dropA (l : List (α × β)) (x : α) : List (α × β) := l.filter fun p => decide (p.1 ≠ x)
theorem getA_pos {p : α × β} {r : List (α × β)} {x : α} (e : p.1 = x) : getA (p :: r) x = some p.2 := if_pos e
theorem getA_neg {p : α × β} {r : List (α × β)} {x : α} (e : ¬ p.1 = x) : getA (p :: r) x = getA r x := if_neg e
theorem getA_mem : ∀ {l : List (α × β)} {x : α} {v : β}, getA l x = some v → (x, v) ∈ l
  | [], _, _, h => by cases h
  | p :: r, x, v, h => by
    by_cases e : p.1 = x
    · rw [getA_pos e] at h
      cases h
      rw [← e]
      exact List.mem_cons_self
    · rw [getA_neg e] at h
      exact List.mem_cons_of_mem _ (getA_mem h)
theorem getA_has {l : List (α × β)} {x : α} : (getA l x).isSome = true ↔ x ∈ l.map (·.1) := by
  induction l with
  | nil => simp [getA]
  | cons p r ih =>
    by_cases e : p.1 = x
    · rw [getA_pos e]; simp [e]
    · rw [getA_neg e, ih]
      simp only [List.map_cons, List.mem_cons]
      exact ⟨.inr, fun z => z.elim (fun y => absurd y.symm e) id⟩
theorem getA_none {l : List (α × β)} {x : α} : getA l x = none ↔ x ∉ l.map (·.1) := by
  rw [← getA_has]
  cases getA l x <;> simp
theorem getA_of_mem {l : List (α × β)} (nd : (l.map (·.1)).Nodup) {x : α} {v : β} (h : (x, v) ∈ l) : getA l x = some v := by
  induction l with
  | nil => cases h
  | cons p r ih =>
    rw [List.map_cons, List.nodup_cons] at nd
    by_cases e : p.1 = x
    · rcases List.mem_cons.mp h with rfl | h
      · exact getA_pos rfl
      · exact absurd (List.mem_map_of_mem (f := (·.1)) h) (by rw [e] at nd; exact nd.1)
    · rcases List.mem_cons.mp h with rfl | h
      · exact absurd rfl e
      · rw [getA_neg e]; exact ih nd.2 h
theorem getA_app {l m : List (α × β)} {x : α} : getA (l ++ m) x = (getA l x).or (getA m x) := by
  induction l with
  | nil => rfl
  | cons p r ih =>
    rw [List.cons_append]
    by_cases e : p.1 = x
    · rw [getA_pos e, getA_pos e]; rfl
    · rw [getA_neg e, getA_neg e, ih]
theorem getA_map {l : List (α × β)} {x y : α} {v : β} : getA (l.map fun p => if p.1 = x then (p.1, v) else p) y = (getA l y).map fun u => if y = x then v else u := by
  induction l with
  | nil => rfl
  | cons p r ih =>
    rw [List.map_cons]
    by_cases e : p.1 = y
    · by_cases f : p.1 = x
      · rw [if_pos f, getA_pos (p := (p.1, v)) e, getA_pos e]; simp [← f, e]
      · rw [if_neg f, getA_pos e, getA_pos e]; simp [show ¬ y = x from fun z => f (e.trans z)]
    · by_cases f : p.1 = x
      · rw [if_pos f, getA_neg (p := (p.1, v)) e, getA_neg e, ih]
      · rw [if_neg f, getA_neg e, getA_neg e, ih]
theorem getA_put {l : List (α × β)} {x y : α} {v : β} : getA (putA l x v) y = if y = x then some v else getA l y := by
  unfold putA
  split
  · rename_i h
    rw [getA_map]
    split
    · rename_i e
      unfold hasA at h
      rw [e]
      cases hh : getA l x with
      | none => rw [hh] at h; cases h
      | some u => rfl
    · cases getA l y <;> rfl
  · rename_i h
    rw [getA_app]
    split
    · rename_i e
      rw [e]
      unfold hasA at h
      cases hh : getA l x with
      | none => show getA [(x, v)] x = some v; exact getA_pos rfl
      | some u => rw [hh] at h; exact absurd rfl h
    · rename_i e
      cases getA l y with
      | none => show getA [(x, v)] y = none; rw [getA_neg (fun z => e z.symm)]; rfl
      | some u => rfl
theorem getA_drop {l : List (α × β)} {x y : α} : getA (dropA l x) y = if y = x then none else getA l y := by
  unfold dropA
  induction l with
  | nil => simp [getA]
  | cons p r ih =>
    rw [List.filter_cons]
    by_cases f : p.1 = x
    · rw [if_neg (by simp [f]), ih]
      split
      · rfl
      · rename_i e
        rw [getA_neg fun z => e (z.symm.trans f)]
    · rw [if_pos (by simp [f])]
      by_cases e : p.1 = y
      · rw [getA_pos e, getA_pos e, if_neg fun z => f (e.trans z)]
      · rw [getA_neg e, getA_neg e, ih]
theorem putA_new {l : List (α × β)} {x : α} {v : β} (h : getA l x = none) : putA l x v = l ++ [(x, v)] := by
  unfold putA hasA
  rw [h, if_neg (by simp)]
theorem putA_keys {l : List (α × β)} {x : α} {v : β} (h : (getA l x).isSome = true) : (putA l x v).map (·.1) = l.map (·.1) := by
  unfold putA hasA
  rw [if_pos h, List.map_map]
  apply List.map_congr_left
  intro p _
  show (if p.1 = x then (p.1, v) else p).1 = p.1
  split <;> rfl
theorem putA_len {l : List (α × β)} {x : α} {v : β} : (putA l x v).length ≤ l.length + 1 := by
  unfold putA
  split
  · rw [List.length_map]; omega
  · rw [List.length_append]; simp
theorem putA_lenH {l : List (α × β)} {x : α} {v : β} (h : (getA l x).isSome = true) : (putA l x v).length = l.length := by
  rw [← List.length_map (f := (·.1)), putA_keys h, List.length_map]
theorem putA_nodup {l : List (α × β)} {x : α} {v : β} (nd : (l.map (·.1)).Nodup) : ((putA l x v).map (·.1)).Nodup := by
  by_cases h : (getA l x).isSome = true
  · rw [putA_keys h]; exact nd
  · have h' : getA l x = none := by simpa using h
    rw [putA_new h', List.map_append, List.nodup_append]
    refine ⟨nd, by simp, fun a ha b hb => ?_⟩
    simp at hb
    subst hb
    intro z
    subst z
    exact getA_none.mp h' ha
theorem dropA_nodup {l : List (α × β)} {x : α} (nd : (l.map (·.1)).Nodup) : ((dropA l x).map (·.1)).Nodup :=
  List.Sublist.nodup (List.Sublist.map _ (List.filter_sublist)) nd
theorem dropA_len {l : List (α × β)} {x : α} : (dropA l x).length ≤ l.length := List.length_filter_le _ _
theorem putA_mem {l : List (α × β)} {x : α} {v : β} {p : α × β} (h : p ∈ putA l x v) : p ∈ l ∨ p = (x, v) := by
  unfold putA at h
  split at h
  · obtain ⟨q, hq, e⟩ := List.mem_map.mp h
    split at e
    · rename_i f
      subst e
      exact .inr (by rw [f])
    · subst e
      exact .inl hq
  · rcases List.mem_append.mp h with h | h
    · exact .inl h
    · exact .inr (by simpa using h)
theorem dropA_mem {l : List (α × β)} {x : α} {p : α × β} (h : p ∈ dropA l x) : p ∈ l := (List.mem_filter.mp h).1
variable {γ : Type} [DecidableEq γ] {f : α → γ} {g : β → V}
theorem valV_emb (inj : ∀ a b, f a = f b → a = b) : ∀ (l : List (α × β)) (x : α), valV (l.map fun p => (f p.1, g p.2)) (f x) = (getA l x).map g
  | [], _ => rfl
  | p :: r, x => by
    rw [List.map_cons]
    by_cases e : p.1 = x
    · rw [valV_pos (p := (f p.1, g p.2)) (by rw [e]), getA_pos e]; rfl
    · rw [valV_neg (p := (f p.1, g p.2)) (fun z => e (inj _ _ z)), getA_neg e, valV_emb inj r x]
theorem putK_emb (inj : ∀ a b, f a = f b → a = b) (l : List (α × β)) (x : α) (v : β) : putK (l.map fun p => (f p.1, g p.2)) (f x) (g v) = (putA l x v).map fun p => (f p.1, g p.2) := by
  unfold putK putA hasA
  rw [valV_any, valV_emb inj]
  cases h : getA l x with
  | none => rw [if_neg (by simp), if_neg (by simp), List.map_append]; rfl
  | some u =>
    rw [if_pos (show (Option.map g (some u)).isSome = true from rfl), if_pos (show (some u).isSome = true from rfl), List.map_map, List.map_map]
    apply List.map_congr_left
    intro p _
    show (if f p.1 = f x then (f p.1, g v) else (f p.1, g p.2)) = (fun p : α × β => (f p.1, g p.2)) (if p.1 = x then (p.1, v) else p)
    by_cases e : p.1 = x
    · rw [if_pos e, if_pos (by rw [e])]
    · rw [if_neg e, if_neg (fun z => e (inj _ _ z))]
theorem dropK_emb (inj : ∀ a b, f a = f b → a = b) (l : List (α × β)) (x : α) : dropK (l.map fun p => (f p.1, g p.2)) (f x) = (dropA l x).map fun p => (f p.1, g p.2) := by
  unfold dropK dropA
  rw [List.filter_map]
  congr 1
  apply List.filter_congr
  intro p _
  show decide (f p.1 ≠ f x) = decide (p.1 ≠ x)
  rw [Bool.eq_iff_iff, decide_eq_true_eq, decide_eq_true_eq]
  exact ⟨fun z y => z (by rw [y]), fun z y => z (inj _ _ y)⟩
end assoc
/-! ### disks as data -/
abbrev Tx := List Nat
theorem mkS_inj' {a b : Tx} (h : mkS a = mkS b) : a = b := by
  have := congrArg tl h
  exact this
abbrev sv (t : Tx) : V := .str (mkS t)
def kvM (l : List (Nat × Tx)) : List (Key × V) := l.map fun p => ((fun n : Nat => (Sum.inl (n : Int) : Key)) p.1, sv p.2)
def kvT (l : List (Tx × Nat)) : List (Key × V) := l.map fun p => ((fun t : Tx => (Sum.inr (mkS t) : Key)) p.1, (fun n : Nat => V.int (n : Int)) p.2)
theorem injM : ∀ a b : Nat, (fun n : Nat => (Sum.inl (n : Int) : Key)) a = (fun n : Nat => (Sum.inl (n : Int) : Key)) b → a = b := fun a b h => by have := Sum.inl.inj h; omega
theorem injT : ∀ a b : Tx, (fun t : Tx => (Sum.inr (mkS t) : Key)) a = (fun t : Tx => (Sum.inr (mkS t) : Key)) b → a = b := fun a b h => mkS_inj' (Sum.inr.inj h)
theorem kvM_val (l : List (Nat × Tx)) (i : Nat) : valV (kvM l) (Sum.inl (i : Int)) = (getA l i).map sv := valV_emb (f := fun n : Nat => (Sum.inl (n : Int) : Key)) (g := sv) injM l i
theorem kvM_put (l : List (Nat × Tx)) (i : Nat) (t : Tx) : putK (kvM l) (Sum.inl (i : Int)) (sv t) = kvM (putA l i t) := putK_emb (f := fun n : Nat => (Sum.inl (n : Int) : Key)) (g := sv) injM l i t
theorem kvT_val (l : List (Tx × Nat)) (x : Tx) : valV (kvT l) (Sum.inr (mkS x)) = (getA l x).map fun n : Nat => V.int (n : Int) := valV_emb (f := fun t : Tx => (Sum.inr (mkS t) : Key)) (g := fun n : Nat => V.int (n : Int)) injT l x
theorem kvT_put (l : List (Tx × Nat)) (x : Tx) (n : Nat) : putK (kvT l) (Sum.inr (mkS x)) (.int (n : Int)) = kvT (putA l x n) := putK_emb (f := fun t : Tx => (Sum.inr (mkS t) : Key)) (g := fun n : Nat => V.int (n : Int)) injT l x n
theorem kvT_drop (l : List (Tx × Nat)) (x : Tx) : dropK (kvT l) (Sum.inr (mkS x)) = kvT (dropA l x) := dropK_emb (f := fun t : Tx => (Sum.inr (mkS t) : Key)) (g := fun n : Nat => V.int (n : Int)) injT l x
theorem kvM_len (l : List (Nat × Tx)) : (kvM l).length = l.length := List.length_map ..
theorem kvT_len (l : List (Tx × Nat)) : (kvT l).length = l.length := List.length_map ..
theorem kvT_keys (l : List (Tx × Nat)) : (kvT l).map (·.1) = (l.map fun p => mkS p.1).map Sum.inr := by
  unfold kvT
  rw [List.map_map, List.map_map]
  rfl
inductive Chg
  | make (x : Tx) (n : Nat)
  | move (x y : Tx)
  | drop (x : Tx)
  deriving DecidableEq
def tupC : Chg → List V
  | .make x n => [.str (Str.ofString "make"), sv x, .int (n : Int)]
  | .move x y => [.str (Str.ofString "move"), sv x, sv y]
  | .drop x => [.str (Str.ofString "remove"), sv x, .int 0]
abbrev Nm := List (Tx × Nat)
def applyC (l : Nm) : Chg → Nm
  | .make x n => putA l x n
  | .move x y => match getA l x with | some n => putA (dropA l x) y n | none => l
  | .drop x => dropA l x
def okC (l : Nm) : Chg → Prop
  | .make x _ => getA l x = none
  | .move x _ => (getA l x).isSome = true
  | .drop x => (getA l x).isSome = true
def applyA : Nm → List Chg → Nm
  | l, [] => l
  | l, c :: r => applyA (applyC l c) r
def okA : Nm → List Chg → Prop
  | _, [] => True
  | l, c :: r => okC l c ∧ okA (applyC l c) r
theorem applyA_app : ∀ (cs ds : List Chg) (l : Nm), applyA l (cs ++ ds) = applyA (applyA l cs) ds
  | [], _, _ => rfl
  | c :: r, ds, l => applyA_app r ds (applyC l c)
theorem okA_app : ∀ (cs ds : List Chg) (l : Nm), okA l (cs ++ ds) ↔ okA l cs ∧ okA (applyA l cs) ds
  | [], _, _ => ⟨fun h => ⟨trivial, h⟩, fun h => h.2⟩
  | c :: r, ds, l => by
    show okC l c ∧ okA (applyC l c) (r ++ ds) ↔ (okC l c ∧ okA (applyC l c) r) ∧ _
    rw [okA_app r ds (applyC l c)]
    exact ⟨fun h => ⟨⟨h.1, h.2.1⟩, h.2.2⟩, fun h => ⟨h.1.1, h.1.2, h.2⟩⟩
theorem okA_take {cs : List Chg} {l : Nm} (h : okA l cs) (k : Nat) : okA l (cs.take k) := by
  rw [← List.take_append_drop k cs, okA_app] at h
  exact h.1
def makeN : Chg → Option Nat
  | .make _ n => some n
  | _ => none
theorem applyC_nums {l : Nm} {c : Chg} {n : Nat} (h : n ∈ (applyC l c).map (·.2)) : n ∈ l.map (·.2) ∨ makeN c = some n := by
  obtain ⟨p, hp, rfl⟩ := List.mem_map.mp h
  cases c with
  | make x k =>
    rcases putA_mem hp with hp | rfl
    · exact .inl (List.mem_map_of_mem hp)
    · exact .inr rfl
  | move x y =>
    rw [show applyC l (.move x y) = (match getA l x with | some n => putA (dropA l x) y n | none => l) from rfl] at hp
    cases e : getA l x with
    | none => rw [e] at hp; exact .inl (List.mem_map_of_mem hp)
    | some k =>
      rw [e] at hp
      rcases putA_mem hp with hp | rfl
      · exact .inl (List.mem_map_of_mem (dropA_mem hp))
      · exact .inl (List.mem_map_of_mem (f := (·.2)) (getA_mem e))
  | drop x => exact .inl (List.mem_map_of_mem (dropA_mem hp))
theorem applyA_nums : ∀ (cs : List Chg) {l : Nm} {n : Nat}, n ∈ (applyA l cs).map (·.2) → n ∈ l.map (·.2) ∨ n ∈ cs.filterMap makeN
  | [], _, _, h => .inl h
  | c :: r, l, n, h => by
    rcases applyA_nums r h with h | h
    · rcases applyC_nums h with h | h
      · exact .inl h
      · exact .inr (List.mem_filterMap.mpr ⟨c, List.mem_cons_self, h⟩)
    · obtain ⟨d, hd, e⟩ := List.mem_filterMap.mp h
      exact .inr (List.mem_filterMap.mpr ⟨d, List.mem_cons_of_mem _ hd, e⟩)
theorem applyC_nodup {l : Nm} {c : Chg} (h : (l.map (·.1)).Nodup) : ((applyC l c).map (·.1)).Nodup := by
  cases c with
  | make x k => exact putA_nodup h
  | move x y =>
    rw [show applyC l (.move x y) = (match getA l x with | some n => putA (dropA l x) y n | none => l) from rfl]
    cases getA l x with
    | none => exact h
    | some k => exact putA_nodup (dropA_nodup h)
  | drop x => exact dropA_nodup h
theorem applyA_nodup : ∀ (cs : List Chg) {l : Nm}, (l.map (·.1)).Nodup → ((applyA l cs).map (·.1)).Nodup
  | [], _, h => h
  | c :: r, _, h => applyA_nodup r (applyC_nodup h)
theorem applyC_len (l : Nm) (c : Chg) : (applyC l c).length ≤ l.length + 1 := by
  cases c with
  | make x k => exact putA_len
  | move x y =>
    rw [show applyC l (.move x y) = (match getA l x with | some n => putA (dropA l x) y n | none => l) from rfl]
    cases getA l x with
    | none => exact Nat.le_succ _
    | some k =>
      have := putA_len (l := dropA l x) (x := y) (v := k)
      have := dropA_len (l := l) (x := x)
      show (putA (dropA l x) y k).length ≤ _
      omega
  | drop x =>
    have := dropA_len (l := l) (x := x)
    show (dropA l x).length ≤ _
    omega
theorem applyA_len : ∀ (cs : List Chg) (l : Nm), (applyA l cs).length ≤ l.length + cs.length
  | [], _ => Nat.le_refl _
  | c :: r, l => by
    have h := applyA_len r (applyC l c)
    have := applyC_len l c
    show (applyA (applyC l c) r).length ≤ _
    rw [List.length_cons]
    omega
structure DS where
  kept : List (Nat × Tx)
  late : List (Nat × Tx)
  names : Nm
  sure : Nm
  ch : List Chg
  next : Nat
def keptD (D : DS) (i : Nat) : Tx := (getA D.kept i).getD []
def lateD (D : DS) (i : Nat) : Tx := (getA D.late i).getD []
def readD (D : DS) (i : Nat) : Tx := keptD D i ++ lateD D i
def numsD (D : DS) (n : Nat) : Prop := n ∈ D.sure.map (·.2) ∨ n ∈ D.ch.filterMap makeN
structure wf (D : DS) : Prop where
  ok : okA D.sure D.ch
  nm : D.names = applyA D.sure D.ch
  nd : (D.sure.map (·.1)).Nodup
  kp : ∀ n, numsD D n → (getA D.kept n).isSome = true
  lt : ∀ n, numsD D n → (getA D.late n).isSome = true
  nx : ∀ n, numsD D n → n < D.next
structure bd (D : DS) : Prop where
  kept : D.kept.length ≤ 1000
  late : D.late.length ≤ 1000
  names : D.names.length < 64
  sure : D.sure.length ≤ 1000
  ch : D.ch.length ≤ 1000
  kt : ∀ p ∈ D.kept, p.2.length ≤ 400000
  lt : ∀ p ∈ D.late, p.2.length ≤ 400000
  na : ∀ p ∈ D.names, ∀ c ∈ p.1, c < 1114112
inductive IB
  | int (i : Int)
  | bl (b : Bool)
def vIB : IB → V
  | .int i => .int i
  | .bl b => .bl b
inductive Row
  | make (x : Tx)
  | write (x t : Tx)
  | sync (x : Tx)
  | names
  | move (x y : Tx)
  | drop (x : Tx)
  | cut (x : Tx) (n : IB)
inductive Res
  | done
  | paper
  | unknown
  deriving DecidableEq
def inIB (m : Nat) : IB → Option Nat
  | .int i => if 0 ≤ i ∧ i ≤ (m : Int) then some i.toNat else none
  | .bl _ => none
theorem inIB_int {m : Nat} {i : Int} : (inIB m (.int i)).isSome = (decide (0 ≤ i) && decide (i ≤ (m : Int))) := by
  show (if 0 ≤ i ∧ i ≤ (m : Int) then some i.toNat else none).isSome = _
  by_cases h : 0 ≤ i ∧ i ≤ (m : Int)
  · rw [if_pos h, decide_eq_true h.1, decide_eq_true h.2]; rfl
  · rw [if_neg h]
    by_cases h0 : 0 ≤ i
    · rw [decide_eq_true h0, decide_eq_false fun z => h ⟨h0, z⟩]; rfl
    · rw [decide_eq_false h0]; rfl
abbrev chD (D : DS) (c : Chg) : DS := { D with names := applyC D.names c, ch := D.ch ++ [c] }
abbrev openD (D : DS) : DS := { D with kept := putA D.kept D.next [], late := putA D.late D.next [] }
abbrev nextD (D : DS) : DS := { D with next := D.next + 1 }
abbrev makeD (D : DS) (x : Tx) : DS := nextD (chD (openD D) (.make x D.next))
abbrev writeD (D : DS) (i : Nat) (t : Tx) : DS := { D with late := putA D.late i (lateD D i ++ t) }
abbrev syncD (D : DS) (i : Nat) : DS := { D with kept := putA D.kept i (readD D i), late := putA D.late i [] }
abbrev cutD (D : DS) (i n : Nat) : DS := { D with kept := putA D.kept i ((readD D i).take n), late := putA D.late i [] }
abbrev syncN (D : DS) : DS := { D with sure := D.names, ch := [] }
def step (D : DS) : Row → DS × Res
  | .make x => if x = [] ∨ hasA D.names x = true then (D, .paper) else (makeD D x, .done)
  | .names => (syncN D, .done)
  | .write x t => match getA D.names x with
    | none => (D, .unknown)
    | some i => if 63 ∈ t then (D, .paper) else (writeD D i t, .done)
  | .sync x => match getA D.names x with
    | none => (D, .unknown)
    | some i => (syncD D i, .done)
  | .move x y => match getA D.names x with
    | none => (D, .unknown)
    | some _ => if x = y ∨ y = [] then (D, .paper) else (chD D (.move x y), .done)
  | .drop x => match getA D.names x with
    | none => (D, .unknown)
    | some _ => (chD D (.drop x), .done)
  | .cut x n => match getA D.names x with
    | none => (D, .unknown)
    | some i => match inIB (readD D i).length n with
      | none => (D, .paper)
      | some m => (cutD D i m, .done)
def noneD : DS := ⟨[], [], [], [], [], 0⟩
/-! ### what a step keeps -/
theorem wf.num {D : DS} (w : wf D) {x : Tx} {i : Nat} (h : getA D.names x = some i) : numsD D i := by
  have := List.mem_map_of_mem (f := (·.2)) (getA_mem h)
  rw [w.nm] at this
  exact applyA_nums _ this
theorem wf.numN {D : DS} (w : wf D) {n : Nat} (h : n ∈ D.names.map (·.2)) : numsD D n := by
  rw [w.nm] at h
  exact applyA_nums _ h
theorem wf.ndN {D : DS} (w : wf D) : (D.names.map (·.1)).Nodup := by rw [w.nm]; exact applyA_nodup _ w.nd
theorem wf_ch {D : DS} (w : wf D) {c : Chg} (h : okC D.names c) (hn : ∀ n, makeN c = some n → (getA D.kept n).isSome = true ∧ (getA D.late n).isSome = true ∧ n < D.next) : wf (chD D c) := by
  have num : ∀ n, numsD (chD D c) n → numsD D n ∨ makeN c = some n := fun n z => by
    rcases z with z | z
    · exact .inl (.inl z)
    · have z' : n ∈ (D.ch ++ [c]).filterMap makeN := z
      rw [List.filterMap_append, List.mem_append] at z'
      rcases z' with z' | z'
      · exact .inl (.inr z')
      · obtain ⟨d, hd, e⟩ := List.mem_filterMap.mp z'
        simp at hd
        subst hd
        exact .inr e
  refine ⟨?_, ?_, w.nd, fun n z => (num n z).elim (w.kp n) fun e => (hn n e).1, fun n z => (num n z).elim (w.lt n) fun e => (hn n e).2.1, fun n z => (num n z).elim (w.nx n) fun e => (hn n e).2.2⟩
  · show okA D.sure (D.ch ++ [c])
    rw [okA_app, ← w.nm]
    exact ⟨w.ok, h, trivial⟩
  · show applyC D.names c = applyA D.sure (D.ch ++ [c])
    rw [applyA_app, ← w.nm]
    rfl
theorem wf_put {D : DS} (w : wf D) {i j : Nat} {t u : Tx} : wf { D with kept := putA D.kept i t, late := putA D.late j u } := by
  refine ⟨w.ok, w.nm, w.nd, fun n z => ?_, fun n z => ?_, w.nx⟩
  · show (getA (putA D.kept i t) n).isSome = true
    rw [getA_put]
    split
    · rfl
    · exact w.kp n z
  · show (getA (putA D.late j u) n).isSome = true
    rw [getA_put]
    split
    · rfl
    · exact w.lt n z
theorem wf_late {D : DS} (w : wf D) {j : Nat} {u : Tx} : wf { D with late := putA D.late j u } := by
  refine ⟨w.ok, w.nm, w.nd, w.kp, fun n z => ?_, w.nx⟩
  show (getA (putA D.late j u) n).isSome = true
  rw [getA_put]
  split
  · rfl
  · exact w.lt n z
theorem wf_make {D : DS} (w : wf D) {x : Tx} (h : getA D.names x = none) : wf (makeD D x) := by
  have w1 : wf (nextD (openD D)) := by
    have := wf_put w (i := D.next) (j := D.next) (t := []) (u := [])
    exact ⟨this.ok, this.nm, this.nd, this.kp, this.lt, fun n z => Nat.lt_succ_of_lt (w.nx n z)⟩
  refine wf_ch (D := nextD (openD D)) (c := .make x D.next) w1 h fun n e => ?_
  obtain rfl : D.next = n := Option.some.inj e
  refine ⟨?_, ?_, Nat.lt_succ_self _⟩
  · show (getA (putA D.kept D.next []) D.next).isSome = true
    rw [getA_put, if_pos rfl]; rfl
  · show (getA (putA D.late D.next []) D.next).isSome = true
    rw [getA_put, if_pos rfl]; rfl
theorem wf_names {D : DS} (w : wf D) : wf (syncN D) := by
  have num : ∀ n, numsD (syncN D) n → numsD D n := fun n z => z.elim (fun y => w.numN y) fun y => by cases y
  exact ⟨trivial, rfl, w.ndN, fun n z => w.kp n (num n z), fun n z => w.lt n (num n z), fun n z => w.nx n (num n z)⟩
theorem wf_step {D : DS} (w : wf D) (r : Row) : wf (step D r).1 := by
  cases r with
  | make x =>
    simp only [step]
    split
    · exact w
    · rename_i h
      refine wf_make w ?_
      have : ¬ hasA D.names x = true := fun z => h (.inr z)
      simpa [hasA] using this
  | names => exact wf_names w
  | write x t =>
    simp only [step]
    cases e : getA D.names x with
    | none => exact w
    | some i =>
      dsimp only
      split
      · exact w
      · exact wf_late w
  | sync x =>
    simp only [step]
    cases e : getA D.names x with
    | none => exact w
    | some i => exact wf_put w
  | move x y =>
    simp only [step]
    cases e : getA D.names x with
    | none => exact w
    | some i =>
      dsimp only
      split
      · exact w
      · exact wf_ch w (by show (getA D.names x).isSome = true; rw [e]; rfl) (fun n z => by cases z)
  | drop x =>
    simp only [step]
    cases e : getA D.names x with
    | none => exact w
    | some i => exact wf_ch w (by show (getA D.names x).isSome = true; rw [e]; rfl) (fun n z => by cases z)
  | cut x n =>
    simp only [step]
    cases e : getA D.names x with
    | none => exact w
    | some i =>
      dsimp only
      cases inIB (readD D i).length n with
      | none => exact w
      | some m => exact wf_put w
end K50

namespace K50
open PySem PySem.Spec PyProof.Rows L2
theorem hu1 {k : Nat} {A : Around} (r : Room k A) : A.units + 1 < cLine := by have := r.units; omega
theorem hu2 {H : Hp} {a b : Addr} {o : HO} (h : upd H a o b = none) : b ≠ a ∧ H b = none := by
  by_cases e : b = a
  · subst e; rw [upd_same] at h; cases h
  · rw [upd_ne e] at h; exact ⟨e, h⟩
/-! ### disks in the heap -/
/-- the tuples of changes -/
def ChAt (H : Hp) : List Addr → List Chg → Prop
  | [], [] => True
  | t :: ts, c :: cs => H t = some (.tup (tupC c)) ∧ ChAt H ts cs
  | _, _ => False
theorem ChAt.keep {H H' : Hp} : ∀ {ts : List Addr} {cs : List Chg}, ChAt H ts cs → (∀ t ∈ ts, ∀ o, H t = some o → H' t = some o) → ChAt H' ts cs
  | [], [], _, _ => trivial
  | t :: ts, c :: cs, h, k => ⟨k t List.mem_cons_self _ h.1, ChAt.keep h.2 fun u m => k u (List.mem_cons_of_mem _ m)⟩
  | [], _ :: _, h, _ => h.elim
  | _ :: _, [], h, _ => h.elim
theorem ChAt.len {H : Hp} : ∀ {ts : List Addr} {cs : List Chg}, ChAt H ts cs → ts.length = cs.length
  | [], [], _ => rfl
  | t :: ts, c :: cs, h => by rw [List.length_cons, List.length_cons, ChAt.len h.2]
  | [], _ :: _, h => h.elim
  | _ :: _, [], h => h.elim
theorem ChAt.snoc {H : Hp} {t : Addr} {c : Chg} : ∀ {ts : List Addr} {cs : List Chg}, ChAt H ts cs → H t = some (.tup (tupC c)) → ChAt H (ts ++ [t]) (cs ++ [c])
  | [], [], _, e => ⟨e, trivial⟩
  | u :: ts, d :: cs, h, e => ⟨h.1, ChAt.snoc h.2 e⟩
  | [], _ :: _, h, _ => h.elim
  | _ :: _, [], h, _ => h.elim
theorem ChAt.tup {H : Hp} {t : Addr} : ∀ {ts : List Addr} {cs : List Chg}, ChAt H ts cs → t ∈ ts → ∃ c, H t = some (.tup (tupC c))
  | [], [], _, m => by cases m
  | u :: ts, d :: cs, h, m => (List.mem_cons.mp m).elim (fun e => ⟨d, e ▸ h.1⟩) fun m => ChAt.tup h.2 m
  | [], _ :: _, h, _ => h.elim
  | _ :: _, [], h, _ => h.elim
theorem ChAt.get {H : Hp} : ∀ {ts : List Addr} {cs : List Chg} (i : Nat) {t : Addr}, ChAt H ts cs → ts[i]? = some t → ∃ c, cs[i]? = some c ∧ H t = some (.tup (tupC c))
  | [], [], _, _, _, e => by simp at e
  | u :: ts, d :: cs, 0, t, h, e => by
    simp at e
    subst e
    exact ⟨d, rfl, h.1⟩
  | u :: ts, d :: cs, i + 1, t, h, e => by
    obtain ⟨c, a, b⟩ := ChAt.get i h.2 (t := t) (by simpa using e)
    exact ⟨c, by simpa using a, b⟩
  | [], _ :: _, _, _, h, _ => h.elim
  | _ :: _, [], _, _, h, _ => h.elim
theorem ChAt.take {H : Hp} : ∀ {ts : List Addr} {cs : List Chg} (k : Nat), ChAt H ts cs → ChAt H (ts.take k) (cs.take k)
  | [], [], k, _ => by simp [ChAt]
  | u :: ts, d :: cs, 0, _ => trivial
  | u :: ts, d :: cs, k + 1, h => ⟨h.1, ChAt.take k h.2⟩
  | [], _ :: _, _, h => h.elim
  | _ :: _, [], _, h => h.elim
def dF (k l n s c : Addr) (nx : Nat) : List (Str × V) := [("_kept", .ref k), ("_late", .ref l), ("_names", .ref n), ("_sure", .ref s), ("_changes", .ref c), ("_next", .int (nx : Int))]
structure DiskP (CD : Addr) (H : Hp) (a k l n s c : Addr) (D : DS) (nm : Nm) (ts : List Addr) : Prop where
  nd : [a, k, l, n, s, c].Nodup
  ins : ∃ dx, H a = some (.ins CD dx (dF k l n s c D.next))
  hk : H k = some (.dK (kvM D.kept))
  hl : H l = some (.dK (kvM D.late))
  hn : H n = some (.dK (kvT nm))
  hs : H s = some (.dK (kvT D.sure))
  hc : H c = some (.lst (ts.map V.ref))
  tp : ChAt H ts D.ch
  sm : bd D
/-- a disk at a, on the objects of fp -/
def DiskN (CD : Addr) (H : Hp) (a : Addr) (fp : List Addr) (D : DS) : Prop := ∃ k l n s c ts, fp = [a, k, l, n, s, c] ∧ DiskP CD H a k l n s c D D.names ts
def DiskAt (CD : Addr) (H : Hp) (a : Addr) (fp : List Addr) (D : DS) : Prop := DiskN CD H a fp D ∧ wf D
/-- outside fp all stands; what is new in fp' was free -/
def Fr (fp fp' : List Addr) (H H' : Hp) : Prop := (∀ b o, H b = some o → b ∉ fp → H' b = some o) ∧ ∀ b ∈ fp', b ∈ fp ∨ H b = none
theorem Fr.refl (fp : List Addr) (H : Hp) : Fr fp fp H H := ⟨fun _ _ e _ => e, fun _ m => .inl m⟩
theorem Fr.trans {f g h : List Addr} {H G I : Hp} (x : Fr f g H G) (y : Fr g h G I) : Fr f h H I :=
  ⟨fun b o e m => y.1 b o (x.1 b o e m) fun z => (x.2 b z).elim m fun n => by rw [n] at e; (cases e), fun b m => by
    rcases y.2 b m with z | z
    · exact x.2 b z
    · by_cases hb : b ∈ f
      · exact .inl hb
      · refine .inr ?_
        cases e : H b with
        | none => rfl
        | some o => have := x.1 b o e hb; rw [z] at this; cases this⟩
theorem Fr.same {f : List Addr} {H G : Hp} (s : Same H G) : Fr f f H G := ⟨fun b o e _ => s b o e, fun _ m => .inl m⟩
theorem Fr.keep {f g : List Addr} {H G : Hp} (x : Fr f g H G) {b : Addr} {o : HO} (e : H b = some o) (m : b ∉ f) : G b = some o := x.1 b o e m
theorem Fr.put {f g : List Addr} {H G : Hp} (x : Fr f g H G) {a : Addr} {o : HO} (m : a ∈ f) : Fr f g H (upd G a o) := ⟨fun b u e nb => by
  have nz : b ≠ a := fun z => nb (by rw [z]; exact m)
  rw [upd_ne nz]; exact x.1 b u e nb, x.2⟩
theorem Fr.neu {f g : List Addr} {H G : Hp} (x : Fr f g H G) {t : Addr} {o : HO} (h : G t = none) : Fr f g H (upd G t o) := ⟨fun b u e nb => by have := x.1 b u e nb; rw [upd_ne (ne_of_none this h)]; exact this, x.2⟩
theorem DiskP.not {CD : Addr} {H : Hp} {a k l n s c : Addr} {D : DS} {nm : Nm} {ts : List Addr} (x : DiskP CD H a k l n s c D nm ts) : ∀ t ∈ ts, t ∉ [a, k, l, n, s, c] := by
  obtain ⟨nd, ⟨dx, hi⟩, hk, hl, hn, hs, hc, tp, sm⟩ := x
  intro t m z
  obtain ⟨ch, e⟩ := tp.tup m
  simp only [List.mem_cons, List.not_mem_nil, or_false] at z
  rcases z with rfl | rfl | rfl | rfl | rfl | rfl
  · rw [e] at hi; cases hi
  · rw [e] at hk; cases hk
  · rw [e] at hl; cases hl
  · rw [e] at hn; cases hn
  · rw [e] at hs; cases hs
  · rw [e] at hc; cases hc
/-- what is kept: the own objects and the tuples -/
def foot (fp ts : List Addr) : List Addr := fp ++ ts
theorem DiskP.keep {CD : Addr} {H H' : Hp} {a k l n s c : Addr} {D : DS} {nm : Nm} {ts : List Addr} (x : DiskP CD H a k l n s c D nm ts) (h : ∀ b o, H b = some o → b ∈ [a, k, l, n, s, c] ∨ (∃ xs, o = .tup xs) → H' b = some o) : DiskP CD H' a k l n s c D nm ts := by
  obtain ⟨nd, ⟨dx, hi⟩, hk, hl, hn, hs, hc, tp, sm⟩ := x
  refine ⟨nd, ⟨dx, h _ _ hi (.inl (by simp))⟩, h _ _ hk (.inl (by simp)), h _ _ hl (.inl (by simp)), h _ _ hn (.inl (by simp)), h _ _ hs (.inl (by simp)), h _ _ hc (.inl (by simp)), tp.keep fun t m o e => ?_, sm⟩
  obtain ⟨ch, e2⟩ := tp.tup m
  rw [e2] at e
  cases e
  exact h _ _ e2 (.inr ⟨_, rfl⟩)
theorem DiskN.keep {CD : Addr} {H H' : Hp} {a : Addr} {fp : List Addr} {D : DS} (x : DiskN CD H a fp D) (h : ∀ b o, H b = some o → b ∈ fp ∨ (∃ xs, o = .tup xs) → H' b = some o) : DiskN CD H' a fp D := by
  obtain ⟨k, l, n, s, c, ts, rfl, p⟩ := x
  exact ⟨k, l, n, s, c, ts, rfl, p.keep h⟩
theorem DiskAt.keep {CD : Addr} {H H' : Hp} {a : Addr} {fp : List Addr} {D : DS} (x : DiskAt CD H a fp D) (h : ∀ b o, H b = some o → b ∈ fp ∨ (∃ xs, o = .tup xs) → H' b = some o) : DiskAt CD H' a fp D := ⟨x.1.keep h, x.2⟩
theorem DiskN.same {CD : Addr} {H H' : Hp} {a : Addr} {fp : List Addr} {D : DS} (x : DiskN CD H a fp D) (s : Same H H') : DiskN CD H' a fp D := x.keep fun b o e _ => s b o e
theorem DiskAt.same {CD : Addr} {H H' : Hp} {a : Addr} {fp : List Addr} {D : DS} (x : DiskAt CD H a fp D) (s : Same H H') : DiskAt CD H' a fp D := ⟨x.1.same s, x.2⟩
theorem DiskN.has {CD : Addr} {H : Hp} {a : Addr} {fp : List Addr} {D : DS} (x : DiskN CD H a fp D) : ∀ b ∈ fp, H b ≠ none := by
  obtain ⟨k, l, n, s, c, ts, rfl, ⟨nd, ⟨dx, hi⟩, hk, hl, hn, hs, hc, tp, sm⟩⟩ := x
  intro b m z
  simp only [List.mem_cons, List.not_mem_nil, or_false] at m
  rcases m with rfl | rfl | rfl | rfl | rfl | rfl
  · rw [z] at hi; cases hi
  · rw [z] at hk; cases hk
  · rw [z] at hl; cases hl
  · rw [z] at hn; cases hn
  · rw [z] at hs; cases hs
  · rw [z] at hc; cases hc
/-- no tuple is among a disk's own objects -/
theorem DiskN.noTup {CD : Addr} {H : Hp} {a : Addr} {fp : List Addr} {D : DS} (x : DiskN CD H a fp D) : ∀ b xs, H b = some (.tup xs) → b ∉ fp := by
  obtain ⟨k, l, n, s, c, ts, rfl, ⟨nd, ⟨dx, hi⟩, hk, hl, hn, hs, hc, tp, sm⟩⟩ := x
  intro b xs e m
  simp only [List.mem_cons, List.not_mem_nil, or_false] at m
  rcases m with rfl | rfl | rfl | rfl | rfl | rfl
  · rw [e] at hi; cases hi
  · rw [e] at hk; cases hk
  · rw [e] at hl; cases hl
  · rw [e] at hn; cases hn
  · rw [e] at hs; cases hs
  · rw [e] at hc; cases hc
theorem texts_at {D : DS} {x : Tx} {i : Nat} (w : wf D) (sm : bd D) (h : getA D.names x = some i) : ∃ t u, getA D.kept i = some t ∧ getA D.late i = some u ∧ t.length ≤ 400000 ∧ u.length ≤ 400000 ∧ readD D i = t ++ u ∧ lateD D i = u ∧ keptD D i = t := by
  obtain ⟨t, ht⟩ := Option.isSome_iff_exists.mp (w.kp i (w.num h))
  obtain ⟨u, hu⟩ := Option.isSome_iff_exists.mp (w.lt i (w.num h))
  refine ⟨t, u, ht, hu, sm.kt _ (getA_mem ht), sm.lt _ (getA_mem hu), ?_⟩
  unfold readD keptD lateD
  rw [ht, hu]
  exact ⟨rfl, rfl, rfl⟩
/-! ### texts in order -/
def leS (a b : Str) : Prop := tl a ≤ tl b
theorem risingS_pair : ∀ (l : List Str) (p : Str), risingS p l = true → (p :: l).Pairwise leS
  | [], p, _ => List.pairwise_singleton _ _
  | x :: r, p, h => by
    unfold risingS at h
    rw [Bool.and_eq_true] at h
    have ih := risingS_pair r x h.2
    have h1 : tl p ≤ tl x := by
      have e := h.1
      rw [ltCps_eq] at e
      simpa using e
    refine List.pairwise_cons.mpr ⟨fun y hy => ?_, ih⟩
    rcases List.mem_cons.mp hy with rfl | hy
    · exact h1
    · exact List.le_trans h1 ((List.pairwise_cons.mp ih).1 y hy)
theorem sortedS_pair : ∀ (l : List Str), sortedS l = true → l.Pairwise leS
  | [], _ => List.Pairwise.nil
  | x :: r, h => risingS_pair r x h
def srt (l : List Tx) : List Tx := l.mergeSort fun a b => decide (a ≤ b)
theorem srt_perm (l : List Tx) : (srt l).Perm l := List.mergeSort_perm ..
theorem srt_pair (l : List Tx) : (srt l).Pairwise fun a b => a ≤ b := by
  have := List.pairwise_mergeSort (le := fun a b : Tx => decide (a ≤ b)) (fun a b c h1 h2 => by
    simp only [decide_eq_true_eq] at *
    exact List.le_trans h1 h2) (fun a b => by
    simp only [Bool.or_eq_true, decide_eq_true_eq]
    exact List.le_total a b) l
  exact this.imp fun h => by simpa using h
theorem srt_only {xs ys : List Tx} (p : xs.Perm ys) (h : xs.Pairwise fun a b => a ≤ b) : xs = srt ys :=
  List.Perm.eq_of_pairwise (fun a b _ _ h1 h2 => List.le_antisymm h1 h2) h (srt_pair ys) (p.trans (srt_perm ys).symm)
/-- what sorted gives of texts -/
theorem srtS {ys : List Str} {xs : List Tx} (p : ys.Perm (xs.map mkS)) (h : sortedS ys = true) : ys = (srt xs).map mkS := by
  have e : ys = (ys.map tl).map mkS := by
    rw [List.map_map]
    exact (List.map_id' ys).symm.trans (List.map_congr_left fun x _ => TL.ext_tl rfl)
  have q : (ys.map tl).Perm xs := by
    have := p.map tl
    rw [List.map_map] at this
    exact this.trans (List.Perm.of_eq ((List.map_congr_left fun x _ => rfl).trans (List.map_id' xs)))
  rw [e, ← srt_only q]
  have := sortedS_pair _ h
  exact (List.pairwise_map.mpr this)
/-! ### the promises -/
def finR (CP CU : Addr) : Res → VK → XK → Hp → Prop
  | .done, Q, _, H => Q .non H
  | .paper, _, E, H => E (.ref CP) none H
  | .unknown, _, E, H => E (.ref CU) none H
def spIsNum : Sp := fun vs H Q _ => ∃ (v : IB) (m : Nat), vs = [vIB v, .int 0, .int (m : Int)] ∧ Q (.bl (inIB m v).isSome) H
def look {α : Type} (o : Option α) (q : α → Prop) (e : Prop) : Prop := match o with | some i => q i | none => e
def spFile (CD CU : Addr) : Sp := fun vs H Q E => ∃ a fp D x, vs = [.ref a, sv x] ∧ DiskN CD H a fp D ∧ look (getA D.names x) (fun i => Q (.int ((i : Nat) : Int)) H) (E (.ref CU) none H)
def spNames (CD : Addr) : Sp := fun vs H Q _ => ∃ a fp D, vs = [.ref a] ∧ DiskN CD H a fp D ∧ ∀ p, H p = none → Q (.ref p) (upd H p (.lst ((srt (D.names.map (·.1))).map sv)))
def spHas (CD : Addr) : Sp := fun vs H Q _ => ∃ a fp D x, vs = [.ref a, sv x] ∧ DiskN CD H a fp D ∧ Q (.bl (hasA D.names x)) H
def spRead (CD CU : Addr) : Sp := fun vs H Q E => ∃ a fp D x, vs = [.ref a, sv x] ∧ DiskAt CD H a fp D ∧ look (getA D.names x) (fun i => Q (sv (readD D i)) H) (E (.ref CU) none H)
def spSize (CD CU : Addr) : Sp := fun vs H Q E => ∃ a fp D x, vs = [.ref a, sv x] ∧ DiskAt CD H a fp D ∧ look (getA D.names x) (fun i => Q (.int (((readD D i).length : Nat) : Int)) H) (E (.ref CU) none H)
def spSure (CD CU : Addr) : Sp := fun vs H Q E => ∃ a fp D x, vs = [.ref a, sv x] ∧ DiskAt CD H a fp D ∧ look (getA D.names x) (fun i => Q (.int (((keptD D i).length : Nat) : Int)) H) (E (.ref CU) none H)
def spLSize (CD CU : Addr) : Sp := fun vs H Q E => ∃ a fp D x, vs = [.ref a, sv x] ∧ DiskAt CD H a fp D ∧ look (getA D.names x) (fun i => Q (.int (((lateD D i).length : Nat) : Int)) H) (E (.ref CU) none H)
def spLCh (CD : Addr) : Sp := fun vs H Q _ => ∃ a fp D, vs = [.ref a] ∧ DiskN CD H a fp D ∧ Q (.int ((D.ch.length : Nat) : Int)) H
def spApplied : Sp := fun vs H Q _ => ∃ (n c : Addr) (ts : List Addr) (l : Nm) (cs : List Chg), vs = [.ref n, .ref c] ∧ H n = some (.dK (kvT l)) ∧ H c = some (.lst (ts.map V.ref)) ∧ ChAt H ts cs ∧ okA l cs ∧ l.length + cs.length ≤ 100000 ∧
  ∀ p H', Same H H' → H p = none → H' p = some (.dK (kvT (applyA l cs))) → Q (.ref p) H'
def spChange (CD : Addr) : Sp := fun vs H Q _ => ∃ (a t : Addr) (fp : List Addr) (D : DS) (c : Chg), vs = [.ref a, .ref t] ∧ DiskN CD H a fp D ∧ H t = some (.tup (tupC c)) ∧ okC D.names c ∧ bd (chD D c) ∧
  ∀ H' fp', DiskN CD H' a fp' (chD D c) → Fr fp fp' H H' → Q .non H'
def spOp (CD CP CU : Addr) (vs0 : List V) (row : Row) (a : Addr) (vs : List V) (H : Hp) (Q : VK) (E : XK) : Prop := ∃ fp D, vs = .ref a :: vs0 ∧ DiskAt CD H a fp D ∧ bd (step D row).1 ∧
  ∀ H' fp', DiskAt CD H' a fp' (step D row).1 → Fr fp fp' H H' → finR CP CU (step D row).2 Q E H'
def spMake (CD CP CU : Addr) : Sp := fun vs H Q E => ∃ a x, spOp CD CP CU [sv x] (.make x) a vs H Q E
def spWrite (CD CP CU : Addr) : Sp := fun vs H Q E => ∃ a x t, spOp CD CP CU [sv x, sv t] (.write x t) a vs H Q E
def spSync (CD CP CU : Addr) : Sp := fun vs H Q E => ∃ a x, spOp CD CP CU [sv x] (.sync x) a vs H Q E
def spSyncN (CD CP CU : Addr) : Sp := fun vs H Q E => ∃ a, spOp CD CP CU [] .names a vs H Q E
def spMove (CD CP CU : Addr) : Sp := fun vs H Q E => ∃ a x y, spOp CD CP CU [sv x, sv y] (.move x y) a vs H Q E
def spRemove (CD CP CU : Addr) : Sp := fun vs H Q E => ∃ a x, spOp CD CP CU [sv x] (.drop x) a vs H Q E
def spCut (CD CP CU : Addr) : Sp := fun vs H Q E => ∃ a x n, spOp CD CP CU [sv x, vIB n] (.cut x n) a vs H Q E
def spInit (CD : Addr) : Sp := fun vs H Q _ => ∃ a dx, vs = [.ref a] ∧ H a = some (.ins CD dx []) ∧ ∀ H' fp', DiskAt CD H' a fp' noneD → Fr [a] fp' H H' → Q .non H'
def spCopy (CD : Addr) : Sp := fun vs H Q _ => ∃ a fp D, vs = [.ref a] ∧ DiskAt CD H a fp D ∧ ∀ b H' fp', DiskAt CD H' b fp' D → Same H H' → (∀ c ∈ fp', H c = none) → Q (.ref b) H'
theorem num_none {n : Nat} (z : numsD noneD n) : False := by
  rcases z with z | z
  · have z' : n ∈ ([] : List Nat) := z
    cases z'
  · have z' : n ∈ ([] : List Nat) := z
    cases z'
theorem wf_none : wf noneD := ⟨trivial, rfl, List.nodup_nil, fun n z => (num_none z).elim, fun n z => (num_none z).elim, fun n z => (num_none z).elim⟩
theorem bd_none : bd noneD := ⟨by decide, by decide, by decide, by decide, by decide, fun p m => (by cases m), fun p m => (by cases m), fun p m => (by cases m)⟩
end K50

namespace K50
open PySem PySem.Spec PyProof.Rows L2
local macro_rules | `(tactic| array_mem_dec) => `(tactic| first | with_reducible assumption | with_reducible exact upd_same | ((with_reducible apply same_at); (with_reducible assumption); array_mem_dec) | ((with_reducible apply upd_atN); (with_reducible assumption); array_mem_dec) | ((with_reducible apply upd_at); (first | with_reducible assumption | (apply Ne.symm; with_reducible assumption)); array_mem_dec))
local macro_rules | `(tactic| array_get_dec) => `(tactic| first | (with_reducible refine w_seq ?_) | (with_reducible refine w_asg ?_) | (with_reducible refine w_drop ?_) | (with_reducible refine w_ret ?_) | (with_reducible refine w_retN ?_) | (with_reducible refine w_next ?_) | (with_reducible refine w_break ?_) | (with_reducible refine w_cont ?_) | (with_reducible refine w_ifS ?_) | (with_reducible refine w_sub ?_) | (with_reducible refine w_c ?_) | (with_reducible refine w_op ?_) | (with_reducible refine w_un ?_) | (with_reducible refine w_test ?_) | (with_reducible refine w_B ?_) | (with_reducible refine w_yes ?_) | (with_reducible refine w_not ?_) | (with_reducible refine w_and ?_) | (with_reducible refine w_or ?_) | (with_reducible refine w_andV ?_) | (with_reducible refine w_orV ?_) | (with_reducible refine w_notV ?_) | (with_reducible refine w_ifE ?_) | (with_reducible refine w_nil ?_) | (with_reducible refine w_cons ?_) | (with_reducible refine w_call ?_) | (with_reducible refine w_callS ?_) | (with_reducible refine w_cB ?_) | (with_reducible refine w_lst ?_) | (with_reducible refine w_tup ?_) | (with_reducible refine w_sl ?_) | (with_reducible refine w_noPart ?_) | (with_reducible refine w_part ?_) | (with_reducible refine w_bm ?_) | (with_reducible refine w_bm0 ?_) | (with_reducible refine w_strTy ?_) | (with_reducible refine w_bl ?_) | (with_reducible refine w_int1 ?_) | (with_reducible refine w_str1 ?_) | (with_reducible refine w_rI0 ?_) | (with_reducible refine w_rU ?_) | (with_reducible refine w_eqI ?_) | (with_reducible refine w_eqS ?_) | (with_reducible refine w_neI ?_) | (with_reducible refine w_neS ?_) | (with_reducible refine w_bl2 ?_) | (with_reducible refine w_isN ?_) | (with_reducible refine w_for ?_) | (with_reducible refine w_iRng1 ?_) | (with_reducible refine w_iRng2 ?_) | (with_reducible refine w_iList ?_) | (with_reducible refine w_iTup ?_) | (with_reducible refine w_iStr ?_) | (with_reducible refine w_lc ?_) | (with_reducible refine w_M1 ?_) | (with_reducible refine w_M0 ?_) | (with_reducible refine w_isS ?_) | ((with_reducible apply w_name); (simp only [wipe, List.map_cons, List.map_nil, List.foldl_cons, List.foldl_nil, List.set_cons_zero, List.set_cons_succ]; exact rfl)) | ((with_reducible apply w_var); exact rfl) | ((with_reducible apply w_lstTy); array_mem_dec) | ((with_reducible apply w_lenL); array_mem_dec) | ((with_reducible apply w_lenT); array_mem_dec) | ((with_reducible apply w_listOf); array_mem_dec) | ((with_reducible apply w_lenS); (first | (with_reducible assumption) | omega | (rw [sizeLine_eq]; omega))) | ((with_reducible apply w_slS); (first | (with_reducible assumption) | omega | (rw [sizeLine_eq]; omega))) | ((with_reducible apply w_wipe); exact rfl) | ((with_reducible apply w_acc); array_mem_dec; (try (first | (with_reducible assumption) | omega | (rw [sizeLine_eq]; omega)))) | ((with_reducible apply w_itl); array_mem_dec) | ((with_reducible apply w_itt); array_mem_dec) | ((with_reducible apply w_append); array_mem_dec; (try (first | (with_reducible assumption) | omega | (rw [sizeLine_eq]; omega)))) | ((with_reducible apply w_rng1); (first | (with_reducible assumption) | omega); (first | (with_reducible assumption) | omega)) | ((with_reducible apply w_ixL); array_mem_dec; (first | (with_reducible assumption) | exact rfl | (apply atI_nat; (with_reducible assumption)) | exact atI_last _ _)) | ((with_reducible apply w_ixT); array_mem_dec; (first | (with_reducible assumption) | exact rfl | (apply atI_nat; (with_reducible assumption)) | exact atI_last _ _)) | ((with_reducible apply w_iT); first | exact rfl | (with_reducible assumption)) | ((with_reducible apply w_iF); first | exact rfl | (with_reducible assumption)) | ((with_reducible apply w_isiI (b := true)); decide +kernel) | ((with_reducible apply w_isiI (b := false)); decide +kernel) | ((with_reducible apply w_isiB (b := true)); decide +kernel) | ((with_reducible apply w_isiB (b := false)); decide +kernel) | ((with_reducible apply w_isiS (b := true)); decide +kernel) | ((with_reducible apply w_isiS (b := false)); decide +kernel) | ((with_reducible apply w_isiN (b := true)); decide +kernel) | ((with_reducible apply w_isiN (b := false)); decide +kernel) | ((with_reducible apply w_isiL (b := true)); array_mem_dec; decide +kernel) | ((with_reducible apply w_isiL (b := false)); array_mem_dec; decide +kernel) | ((with_reducible apply w_isiT (b := true)); array_mem_dec; decide +kernel) | ((with_reducible apply w_isiT (b := false)); array_mem_dec; decide +kernel) | (with_reducible refine w_notT ?_) | (with_reducible refine w_chain ?_) | ((with_reducible apply w_trL); array_mem_dec) | ((with_reducible apply w_gTup); array_mem_dec; exact rfl) | ((with_reducible apply w_gLst); array_mem_dec; exact rfl) | (with_reducible refine w_gCons ?_) | (with_reducible refine w_gNil ?_) | (with_reducible refine w_Fld ?_) | (with_reducible refine w_sFld ?_) | (with_reducible refine w_dget ?_) | (with_reducible refine w_dIn ?_) | (with_reducible refine w_dNotIn ?_) | (with_reducible refine w_sDPut ?_) | (with_reducible refine w_dnewK ?_) | (with_reducible refine w_meth ?_) | (with_reducible refine w_make ?_) | (with_reducible refine w_methS ?_) | (with_reducible refine w_makeS ?_) | (with_reducible refine w_dpop ?_) | ((with_reducible apply w_fld1); array_mem_dec; (with_reducible assumption); (with_reducible assumption); exact rfl) | ((with_reducible apply w_sfld1); array_mem_dec; (with_reducible assumption); (with_reducible assumption); exact Nat.le_of_ble_eq_true rfl) | ((with_reducible apply w_meth1); array_mem_dec; exact rfl) | ((with_reducible apply w_dgetS); array_mem_dec; (with_reducible assumption)) | ((with_reducible apply w_dgetI); array_mem_dec; (with_reducible assumption)) | ((with_reducible apply w_dinS); array_mem_dec) | ((with_reducible apply w_dputI); array_mem_dec; (try (first | (with_reducible assumption) | omega | (rw [sizeLine_eq]; omega)))) | ((with_reducible apply w_dputS); array_mem_dec; (try (first | (with_reducible assumption) | omega | (rw [sizeLine_eq]; omega)))) | ((with_reducible apply w_isD); array_mem_dec) | ((with_reducible apply w_dictD); array_mem_dec) | ((with_reducible apply w_dpopS); array_mem_dec; (with_reducible assumption)) | ((with_reducible apply w_setL); array_mem_dec; exact rfl) | ((with_reducible apply w_cat); array_mem_dec; array_mem_dec; (try (first | (with_reducible assumption) | omega | (rw [sizeLine_eq]; omega)))) | (with_reducible refine w_iKeys ?_) | (with_reducible refine w_dget2 ?_) | (with_reducible refine w_scX ?_) | ((with_reducible apply w_keysF); array_mem_dec) | ((with_reducible apply w_dgetSF); array_mem_dec; (with_reducible assumption)))
section
variable {P : Program} {w : World} {K : PySem.W.Frag} {mg : Str → Option Value} {base : Heap}
theorem ok_is_number (M : Nms K mg) : FnOk P w K mg base CX0 1 M.a_is_number M.d_is_number ["value", "least", "most"] spIsNum := by
  obtain ⟨dvs, F⟩ := M.F_is_number
  refine F.ok sc_is_number (fun vs H Q E h => ?_) (fun cdv A outer s H vs Q E hr h => ?_)
  · obtain ⟨v, m, rfl, _⟩ := h
    rfl
  · refine ⟨_, (pss_cons (ps_if (PW.pt (pw_or (pt_val (pe_callB call_isi (by rfl) M.T.b_isinstance (by decide +kernel) (pa_cons (pv 0) (pa_cons (pe_bltn (v := .ty "bool") (u := .type "bool") (by rfl) M.T.b_bool (by decide +kernel) rfl) pa_nil)))) (pw_or1 (pt_not (pt_val (pe_callB call_isi (by rfl) M.T.b_isinstance (by decide +kernel) (pa_cons (pv 0) (pa_cons (pe_bltn (v := .ty "int") (u := .type "int") (by rfl) M.T.b_int (by decide +kernel) rfl) pa_nil)))))))) (pss_one (ps_ret pe_bl)) pss_nil)
    (pss_one (ps_ret (pe_chain op_le op_le (pv 1) (pv 0) (pv 2))))), ?_⟩
    try dsimp only [cxOf, Cx.nox]
    obtain ⟨v, m, rfl, q⟩ := h
    cases v with
    | int i =>
      refine w_start (σ' := [some (.int i), some (.int 0), some (.int (m : Int))]) rfl ?_
      (repeat array_get_dec)
      rw [inIB_int] at q
      refine ite2 (fun h1 => ?_) (fun h1 => ?_)
      · (repeat array_get_dec)
        rw [h1, Bool.true_and] at q
        exact q
      · have h1' : decide ((0 : Int) ≤ i) = false := by simpa using h1
        rw [h1', Bool.false_and] at q
        exact q
    | bl b =>
      refine w_start (σ' := [some (.bl b), some (.int 0), some (.int (m : Int))]) rfl ?_
      (repeat array_get_dec)
      exact q
theorem ok_Disk__file (M : Nms K mg) : FnOk P w K mg base (L2N.CX P w) 1 M.a_Disk__file M.d_Disk__file ["self", "name"] (spFile M.CD M.CU) := by
  refine M.F_Disk__file.okN sc_Disk__file (fun vs H Q E h => ?_) (fun cdv A outer s H vs Q E hr h => ?_)
  · obtain ⟨a, fp, D, x, rfl, _⟩ := h
    rfl
  · have hu := hu1 hr
    have clD := M.clD
    have nD_kept := M.nD_kept
    have nD_late := M.nD_late
    have nD_names := M.nD_names
    have nD_sure := M.nD_sure
    have nD_changes := M.nD_changes
    have nD_next := M.nD_next
    refine ⟨_, (pss_cons (ps_if (pt_cmp (pc_dnotin hu (pv 1) (pe_fld (pv 0) rfl))) (pss_one (L2N.ps_raise rfl (L2N.takes_of rfl rfl rfl rfl) (L2N.pmk_own PySem.F.excBase_ValueError M.XU.xP M.XU.gP M.XU.kP (raises_own M.XU.bP M.XU.tP) rfl))) pss_nil)
    (pss_one (ps_ret (pe_dget hu (pe_fld (pv 0) rfl) (pv 1) (fun _ _ => rfl))))), ?_⟩
    try dsimp only [cxOf, Cx.nox]
    obtain ⟨a, fp, D, x, rfl, ⟨k, l, n, sa, c, ts, rfl, ⟨nd, ⟨dx, hi⟩, hk, hl, hn, hs, hc, tp, sm⟩⟩, q⟩ := h
    refine w_start (σ' := [some (.ref a), some (sv x)]) rfl ?_
    have e1 := kvT_val D.names x
    (repeat array_get_dec)
    rw [e1]
    cases e : getA D.names x with
    | none =>
      rw [e] at q
      (repeat array_get_dec)
      exact q
    | some i =>
      rw [e] at q
      have e2 : valV (kvT D.names) (Sum.inr (mkS x)) = some (.int ((i : Nat) : Int)) := by rw [kvT_val, e]; rfl
      (repeat array_get_dec)
      exact q
theorem okL_Disk__file (M : Nms K mg) : FnOk P w K mg base CX0 1 M.a_Disk__file M.d_Disk__file ["self", "name"] (fun vs H Q _ => ∃ a fp D x i, vs = [.ref a, sv x] ∧ DiskN M.CD H a fp D ∧ getA D.names x = some i ∧ Q (.int ((i : Nat) : Int)) H) :=
  ok_low (ok_Disk__file M) fun vs H Q E ⟨a, fp, D, x, i, e, d, g, q⟩ => ⟨a, fp, D, x, e, d, by rw [g]; exact q⟩
theorem ok_Disk_names (M : Nms K mg) : FnOk P w K mg base CX0 1 M.a_Disk_names M.d_Disk_names ["self"] (spNames M.CD) := by
  refine M.F_Disk_names.ok sc_Disk_names (fun vs H Q E h => ?_) (fun cdv A outer s H vs Q E hr h => ?_)
  · obtain ⟨a, fp, D, rfl, _⟩ := h
    rfl
  · have hu := hu1 hr
    have clD := M.clD
    have nD_kept := M.nD_kept
    have nD_late := M.nD_late
    have nD_names := M.nD_names
    have nD_sure := M.nD_sure
    have nD_changes := M.nD_changes
    have nD_next := M.nD_next
    refine ⟨_, (pss_one (ps_ret (pe_callB (call_sortedD rfl) (by rfl) M.T.b_sorted (by decide +kernel) (pa_cons (pe_fld (pv 0) rfl) pa_nil)))), ?_⟩
    try dsimp only [cxOf, Cx.nox]
    obtain ⟨a, fp, D, rfl, ⟨k, l, n, sa, c, ts, rfl, ⟨nd, ⟨dx, hi⟩, hk, hl, hn, hs, hc, tp, sm⟩⟩, q⟩ := h
    refine w_start (σ' := [some (.ref a)]) rfl ?_
    (repeat array_get_dec)
    refine ⟨n, kvT D.names, D.names.map fun p => mkS p.1, rfl, Rd.of hn, kvT_keys _, ?_, fun ys p hp h1 h2 => ?_⟩
    · rw [List.length_map]
      exact sm.names
    · have e : ys = (srt (D.names.map (·.1))).map mkS := srtS (by rw [List.map_map]; exact hp) h1
      rw [e, List.map_map]
      exact q p h2
theorem ok_Disk_has (M : Nms K mg) : FnOk P w K mg base CX0 1 M.a_Disk_has M.d_Disk_has ["self", "name"] (spHas M.CD) := by
  refine M.F_Disk_has.ok sc_Disk_has (fun vs H Q E h => ?_) (fun cdv A outer s H vs Q E hr h => ?_)
  · obtain ⟨a, fp, D, x, rfl, _⟩ := h
    rfl
  · have hu := hu1 hr
    have clD := M.clD
    have nD_kept := M.nD_kept
    have nD_late := M.nD_late
    have nD_names := M.nD_names
    have nD_sure := M.nD_sure
    have nD_changes := M.nD_changes
    have nD_next := M.nD_next
    refine ⟨_, (pss_one (ps_ret (pe_cmp (pc_din hu (pv 1) (pe_fld (pv 0) rfl))))), ?_⟩
    try dsimp only [cxOf, Cx.nox]
    obtain ⟨a, fp, D, x, rfl, ⟨k, l, n, sa, c, ts, rfl, ⟨nd, ⟨dx, hi⟩, hk, hl, hn, hs, hc, tp, sm⟩⟩, q⟩ := h
    refine w_start (σ' := [some (.ref a), some (sv x)]) rfl ?_
    (repeat array_get_dec)
    rw [kvT_val]
    unfold hasA at q
    rw [show (Option.map (fun n : Nat => V.int (n : Int)) (getA D.names x)).isSome = (getA D.names x).isSome from by cases getA D.names x <;> rfl]
    exact q
theorem ok_Disk_read (M : Nms K mg) : FnOk P w K mg base (L2N.CX P w) 2 M.a_Disk_read M.d_Disk_read ["self", "name"] (spRead M.CD M.CU) := by
  refine M.F_Disk_read.okN sc_Disk_read (fun vs H Q E h => ?_) (fun cdv A outer s H vs Q E hr h => ?_)
  · obtain ⟨a, fp, D, x, rfl, _⟩ := h
    rfl
  · have hu := hu1 hr
    have clD := M.clD
    have nD_kept := M.nD_kept
    have nD_late := M.nD_late
    have nD_names := M.nD_names
    have nD_sure := M.nD_sure
    have nD_changes := M.nD_changes
    have nD_next := M.nD_next
    refine ⟨_, (pss_cons (ps_set (i := 2) sc_Disk_read.nd rfl (Or.inl rfl) (pe_methS1 (pv 0) M.clD M.m_Disk__file (ok_Disk__file M) (hr.mono (by decide)) M.b_Disk__file (fun σ => L2N.passAt (L2N.takes_of rfl rfl rfl rfl) σ) (pa_cons (pv 1) pa_nil)))
    (pss_one (ps_ret (pe_op op_add_str (pe_dget hu (pe_fld (pv 0) rfl) (pv 2) (fun _ _ => rfl)) (pe_dget hu (pe_fld (pv 0) rfl) (pv 2) (fun _ _ => rfl)))))), ?_⟩
    try dsimp only [cxOf, Cx.nox]
    obtain ⟨a, fp, D, x, rfl, ⟨dk, wfd⟩, q⟩ := h
    have dk' := dk
    obtain ⟨k, l, n, sa, c, ts, rfl, ⟨nd, ⟨dx, hi⟩, hk, hl, hn, hs, hc, tp, sm⟩⟩ := dk'
    refine w_start (σ' := [some (.ref a), some (sv x), none]) rfl ?_
    (repeat array_get_dec)
    refine ⟨a, _, D, x, rfl, dk, ?_⟩
    cases e : getA D.names x with
    | none =>
      rw [e] at q
      exact q
    | some i =>
      rw [e] at q
      obtain ⟨t, u, g1, g2, b1, b2, er, _, _⟩ := texts_at wfd sm e
      have e1 : valV (kvM D.kept) (Sum.inl ((i : Nat) : Int)) = some (sv t) := by rw [kvM_val, g1]; rfl
      have e2 : valV (kvM D.late) (Sum.inl ((i : Nat) : Int)) = some (sv u) := by rw [kvM_val, g2]; rfl
      dsimp only [look] at q ⊢
      (repeat array_get_dec)
      refine w_addS (fit_add (s := mkS t) (t := mkS u) (a := t.length) (b := u.length) (Nat.le_of_eq (len_tl _)) (Nat.le_of_eq (len_tl _)) (by omega)) ?_
      rw [mkS_app, ← er]
      exact q
theorem okL_Disk_read (M : Nms K mg) : FnOk P w K mg base CX0 2 M.a_Disk_read M.d_Disk_read ["self", "name"] (fun vs H Q _ => ∃ a fp D x i, vs = [.ref a, sv x] ∧ DiskAt M.CD H a fp D ∧ getA D.names x = some i ∧ Q (sv (readD D i)) H) :=
  ok_low (ok_Disk_read M) fun vs H Q E ⟨a, fp, D, x, i, e, d, g, q⟩ => ⟨a, fp, D, x, e, d, by rw [g]; exact q⟩
theorem ok_Disk_size (M : Nms K mg) : FnOk P w K mg base (L2N.CX P w) 3 M.a_Disk_size M.d_Disk_size ["self", "name"] (spSize M.CD M.CU) := by
  refine M.F_Disk_size.okN sc_Disk_size (fun vs H Q E h => ?_) (fun cdv A outer s H vs Q E hr h => ?_)
  · obtain ⟨a, fp, D, x, rfl, _⟩ := h
    rfl
  · have hu := hu1 hr
    have clD := M.clD
    have nD_kept := M.nD_kept
    have nD_late := M.nD_late
    have nD_names := M.nD_names
    have nD_sure := M.nD_sure
    have nD_changes := M.nD_changes
    have nD_next := M.nD_next
    refine ⟨_, (pss_one (ps_ret (pe_callB (id := "len") (r := fun xs H Q => ∃ x n, xs = [x] ∧ LenV K x H n ∧ Q (V.int ((n : Nat) : Int)) H) call_len (by rfl) M.T.b_len (by decide +kernel) (pa_cons (pe_methS1 (pv 0) M.clD M.m_Disk_read (ok_Disk_read M) (hr.mono (by decide)) M.b_Disk_read (fun σ => L2N.passAt (L2N.takes_of rfl rfl rfl rfl) σ) (pa_cons (pv 1) pa_nil)) pa_nil)))), ?_⟩
    try dsimp only [cxOf, Cx.nox]
    obtain ⟨a, fp, D, x, rfl, dk, q⟩ := h
    have dk' := dk
    obtain ⟨⟨k, l, n, sa, c, ts, rfl, ⟨nd, ⟨dx, hi⟩, hk, hl, hn, hs, hc, tp, sm⟩⟩, wfd⟩ := dk'
    refine w_start (σ' := [some (.ref a), some (sv x)]) rfl ?_
    (repeat array_get_dec)
    refine ⟨a, _, D, x, rfl, dk, ?_⟩
    cases e : getA D.names x with
    | none =>
      rw [e] at q
      exact q
    | some i =>
      rw [e] at q
      obtain ⟨t, u, g1, g2, b1, b2, er, _, _⟩ := texts_at wfd sm e
      have hz : (mkS (readD D i)).length ≤ sizeLine := by rw [er, sizeLine_eq, len_tl]; show (t ++ u).length ≤ _; rw [List.length_append]; omega
      dsimp only [look] at q ⊢
      (repeat array_get_dec)
      rw [len_tl]
      exact q
theorem okL_Disk_size (M : Nms K mg) : FnOk P w K mg base CX0 3 M.a_Disk_size M.d_Disk_size ["self", "name"] (fun vs H Q _ => ∃ a fp D x i, vs = [.ref a, sv x] ∧ DiskAt M.CD H a fp D ∧ getA D.names x = some i ∧ Q (.int (((readD D i).length : Nat) : Int)) H) :=
  ok_low (ok_Disk_size M) fun vs H Q E ⟨a, fp, D, x, i, e, d, g, q⟩ => ⟨a, fp, D, x, e, d, by rw [g]; exact q⟩
theorem ok_Disk_sure (M : Nms K mg) : FnOk P w K mg base (L2N.CX P w) 2 M.a_Disk_sure M.d_Disk_sure ["self", "name"] (spSure M.CD M.CU) := by
  refine M.F_Disk_sure.okN sc_Disk_sure (fun vs H Q E h => ?_) (fun cdv A outer s H vs Q E hr h => ?_)
  · obtain ⟨a, fp, D, x, rfl, _⟩ := h
    rfl
  · have hu := hu1 hr
    have clD := M.clD
    have nD_kept := M.nD_kept
    have nD_late := M.nD_late
    have nD_names := M.nD_names
    have nD_sure := M.nD_sure
    have nD_changes := M.nD_changes
    have nD_next := M.nD_next
    refine ⟨_, (pss_one (ps_ret (pe_callB (id := "len") (r := fun xs H Q => ∃ x n, xs = [x] ∧ LenV K x H n ∧ Q (V.int ((n : Nat) : Int)) H) call_len (by rfl) M.T.b_len (by decide +kernel) (pa_cons (pe_dget hu (pe_fld (pv 0) rfl) (pe_methS1 (pv 0) M.clD M.m_Disk__file (ok_Disk__file M) (hr.mono (by decide)) M.b_Disk__file (fun σ => L2N.passAt (L2N.takes_of rfl rfl rfl rfl) σ) (pa_cons (pv 1) pa_nil)) (fun _ _ => rfl)) pa_nil)))), ?_⟩
    try dsimp only [cxOf, Cx.nox]
    obtain ⟨a, fp, D, x, rfl, dk, q⟩ := h
    have dk' := dk
    obtain ⟨⟨k, l, n, sa, c, ts, rfl, ⟨nd, ⟨dx, hi⟩, hk, hl, hn, hs, hc, tp, sm⟩⟩, wfd⟩ := dk'
    refine w_start (σ' := [some (.ref a), some (sv x)]) rfl ?_
    (repeat array_get_dec)
    refine ⟨a, _, D, x, rfl, dk.1, ?_⟩
    cases e : getA D.names x with
    | none =>
      rw [e] at q
      exact q
    | some i =>
      rw [e] at q
      obtain ⟨t, u, g1, g2, b1, b2, er, _, et⟩ := texts_at wfd sm e
      have e1 : valV (kvM D.kept) (Sum.inl ((i : Nat) : Int)) = some (sv t) := by rw [kvM_val, g1]; rfl
      have hz : (mkS t).length ≤ sizeLine := by rw [sizeLine_eq, len_tl]; show t.length ≤ _; omega
      dsimp only [look] at q ⊢
      (repeat array_get_dec)
      rw [len_tl]
      rw [et] at q
      exact q
theorem okL_Disk_sure (M : Nms K mg) : FnOk P w K mg base CX0 2 M.a_Disk_sure M.d_Disk_sure ["self", "name"] (fun vs H Q _ => ∃ a fp D x i, vs = [.ref a, sv x] ∧ DiskAt M.CD H a fp D ∧ getA D.names x = some i ∧ Q (.int (((keptD D i).length : Nat) : Int)) H) :=
  ok_low (ok_Disk_sure M) fun vs H Q E ⟨a, fp, D, x, i, e, d, g, q⟩ => ⟨a, fp, D, x, e, d, by rw [g]; exact q⟩
theorem ok_Disk_late_size (M : Nms K mg) : FnOk P w K mg base (L2N.CX P w) 2 M.a_Disk_late_size M.d_Disk_late_size ["self", "name"] (spLSize M.CD M.CU) := by
  refine M.F_Disk_late_size.okN sc_Disk_late_size (fun vs H Q E h => ?_) (fun cdv A outer s H vs Q E hr h => ?_)
  · obtain ⟨a, fp, D, x, rfl, _⟩ := h
    rfl
  · have hu := hu1 hr
    have clD := M.clD
    have nD_kept := M.nD_kept
    have nD_late := M.nD_late
    have nD_names := M.nD_names
    have nD_sure := M.nD_sure
    have nD_changes := M.nD_changes
    have nD_next := M.nD_next
    refine ⟨_, (pss_one (ps_ret (pe_callB (id := "len") (r := fun xs H Q => ∃ x n, xs = [x] ∧ LenV K x H n ∧ Q (V.int ((n : Nat) : Int)) H) call_len (by rfl) M.T.b_len (by decide +kernel) (pa_cons (pe_dget hu (pe_fld (pv 0) rfl) (pe_methS1 (pv 0) M.clD M.m_Disk__file (ok_Disk__file M) (hr.mono (by decide)) M.b_Disk__file (fun σ => L2N.passAt (L2N.takes_of rfl rfl rfl rfl) σ) (pa_cons (pv 1) pa_nil)) (fun _ _ => rfl)) pa_nil)))), ?_⟩
    try dsimp only [cxOf, Cx.nox]
    obtain ⟨a, fp, D, x, rfl, dk, q⟩ := h
    have dk' := dk
    obtain ⟨⟨k, l, n, sa, c, ts, rfl, ⟨nd, ⟨dx, hi⟩, hk, hl, hn, hs, hc, tp, sm⟩⟩, wfd⟩ := dk'
    refine w_start (σ' := [some (.ref a), some (sv x)]) rfl ?_
    (repeat array_get_dec)
    refine ⟨a, _, D, x, rfl, dk.1, ?_⟩
    cases e : getA D.names x with
    | none =>
      rw [e] at q
      exact q
    | some i =>
      rw [e] at q
      obtain ⟨t, u, g1, g2, b1, b2, er, eu, _⟩ := texts_at wfd sm e
      have e1 : valV (kvM D.late) (Sum.inl ((i : Nat) : Int)) = some (sv u) := by rw [kvM_val, g2]; rfl
      have hz : (mkS u).length ≤ sizeLine := by rw [sizeLine_eq, len_tl]; show u.length ≤ _; omega
      dsimp only [look] at q ⊢
      (repeat array_get_dec)
      rw [len_tl]
      rw [eu] at q
      exact q
theorem okL_Disk_late_size (M : Nms K mg) : FnOk P w K mg base CX0 2 M.a_Disk_late_size M.d_Disk_late_size ["self", "name"] (fun vs H Q _ => ∃ a fp D x i, vs = [.ref a, sv x] ∧ DiskAt M.CD H a fp D ∧ getA D.names x = some i ∧ Q (.int (((lateD D i).length : Nat) : Int)) H) :=
  ok_low (ok_Disk_late_size M) fun vs H Q E ⟨a, fp, D, x, i, e, d, g, q⟩ => ⟨a, fp, D, x, e, d, by rw [g]; exact q⟩
theorem ok_Disk_late_changes (M : Nms K mg) : FnOk P w K mg base CX0 1 M.a_Disk_late_changes M.d_Disk_late_changes ["self"] (spLCh M.CD) := by
  refine M.F_Disk_late_changes.ok sc_Disk_late_changes (fun vs H Q E h => ?_) (fun cdv A outer s H vs Q E hr h => ?_)
  · obtain ⟨a, fp, D, rfl, _⟩ := h
    rfl
  · have hu := hu1 hr
    have clD := M.clD
    have nD_kept := M.nD_kept
    have nD_late := M.nD_late
    have nD_names := M.nD_names
    have nD_sure := M.nD_sure
    have nD_changes := M.nD_changes
    have nD_next := M.nD_next
    refine ⟨_, (pss_one (ps_ret (pe_callB (id := "len") (r := fun xs H Q => ∃ x n, xs = [x] ∧ LenV K x H n ∧ Q (V.int ((n : Nat) : Int)) H) call_len (by rfl) M.T.b_len (by decide +kernel) (pa_cons (pe_fld (pv 0) rfl) pa_nil)))), ?_⟩
    try dsimp only [cxOf, Cx.nox]
    obtain ⟨a, fp, D, rfl, ⟨k, l, n, sa, c, ts, rfl, ⟨nd, ⟨dx, hi⟩, hk, hl, hn, hs, hc, tp, sm⟩⟩, q⟩ := h
    refine w_start (σ' := [some (.ref a)]) rfl ?_
    (repeat array_get_dec)
    rw [List.length_map, tp.len]
    exact q
end
end K50

namespace K50
open PySem PySem.Spec PyProof.Rows L2
local macro_rules | `(tactic| array_mem_dec) => `(tactic| first | with_reducible assumption | with_reducible exact upd_same | ((with_reducible apply same_at); (with_reducible assumption); array_mem_dec) | ((with_reducible apply upd_atN); (with_reducible assumption); array_mem_dec) | ((with_reducible apply upd_at); (first | with_reducible assumption | (apply Ne.symm; with_reducible assumption)); array_mem_dec))
local macro_rules | `(tactic| array_get_dec) => `(tactic| first | (with_reducible refine w_seq ?_) | (with_reducible refine w_asg ?_) | (with_reducible refine w_drop ?_) | (with_reducible refine w_ret ?_) | (with_reducible refine w_retN ?_) | (with_reducible refine w_next ?_) | (with_reducible refine w_break ?_) | (with_reducible refine w_cont ?_) | (with_reducible refine w_ifS ?_) | (with_reducible refine w_sub ?_) | (with_reducible refine w_c ?_) | (with_reducible refine w_op ?_) | (with_reducible refine w_un ?_) | (with_reducible refine w_test ?_) | (with_reducible refine w_B ?_) | (with_reducible refine w_yes ?_) | (with_reducible refine w_not ?_) | (with_reducible refine w_and ?_) | (with_reducible refine w_or ?_) | (with_reducible refine w_andV ?_) | (with_reducible refine w_orV ?_) | (with_reducible refine w_notV ?_) | (with_reducible refine w_ifE ?_) | (with_reducible refine w_nil ?_) | (with_reducible refine w_cons ?_) | (with_reducible refine w_call ?_) | (with_reducible refine w_callS ?_) | (with_reducible refine w_cB ?_) | (with_reducible refine w_lst ?_) | (with_reducible refine w_tup ?_) | (with_reducible refine w_sl ?_) | (with_reducible refine w_noPart ?_) | (with_reducible refine w_part ?_) | (with_reducible refine w_bm ?_) | (with_reducible refine w_bm0 ?_) | (with_reducible refine w_strTy ?_) | (with_reducible refine w_bl ?_) | (with_reducible refine w_int1 ?_) | (with_reducible refine w_str1 ?_) | (with_reducible refine w_rI0 ?_) | (with_reducible refine w_rU ?_) | (with_reducible refine w_eqI ?_) | (with_reducible refine w_eqS ?_) | (with_reducible refine w_neI ?_) | (with_reducible refine w_neS ?_) | (with_reducible refine w_bl2 ?_) | (with_reducible refine w_isN ?_) | (with_reducible refine w_for ?_) | (with_reducible refine w_iRng1 ?_) | (with_reducible refine w_iRng2 ?_) | (with_reducible refine w_iList ?_) | (with_reducible refine w_iTup ?_) | (with_reducible refine w_iStr ?_) | (with_reducible refine w_lc ?_) | (with_reducible refine w_M1 ?_) | (with_reducible refine w_M0 ?_) | (with_reducible refine w_isS ?_) | ((with_reducible apply w_name); (simp only [wipe, List.map_cons, List.map_nil, List.foldl_cons, List.foldl_nil, List.set_cons_zero, List.set_cons_succ]; exact rfl)) | ((with_reducible apply w_var); exact rfl) | ((with_reducible apply w_lstTy); array_mem_dec) | ((with_reducible apply w_lenL); array_mem_dec) | ((with_reducible apply w_lenT); array_mem_dec) | ((with_reducible apply w_listOf); array_mem_dec) | ((with_reducible apply w_lenS); (first | (with_reducible assumption) | omega | (rw [sizeLine_eq]; omega))) | ((with_reducible apply w_slS); (first | (with_reducible assumption) | omega | (rw [sizeLine_eq]; omega))) | ((with_reducible apply w_wipe); exact rfl) | ((with_reducible apply w_acc); array_mem_dec; (try (first | (with_reducible assumption) | omega | (rw [sizeLine_eq]; omega)))) | ((with_reducible apply w_itl); array_mem_dec) | ((with_reducible apply w_itt); array_mem_dec) | ((with_reducible apply w_append); array_mem_dec; (try (first | (with_reducible assumption) | omega | (rw [sizeLine_eq]; omega)))) | ((with_reducible apply w_rng1); (first | (with_reducible assumption) | omega); (first | (with_reducible assumption) | omega)) | ((with_reducible apply w_ixL); array_mem_dec; (first | (with_reducible assumption) | exact rfl | (apply atI_nat; (with_reducible assumption)) | exact atI_last _ _)) | ((with_reducible apply w_ixT); array_mem_dec; (first | (with_reducible assumption) | exact rfl | (apply atI_nat; (with_reducible assumption)) | exact atI_last _ _)) | ((with_reducible apply w_iT); first | exact rfl | (with_reducible assumption)) | ((with_reducible apply w_iF); first | exact rfl | (with_reducible assumption)) | ((with_reducible apply w_isiI (b := true)); decide +kernel) | ((with_reducible apply w_isiI (b := false)); decide +kernel) | ((with_reducible apply w_isiB (b := true)); decide +kernel) | ((with_reducible apply w_isiB (b := false)); decide +kernel) | ((with_reducible apply w_isiS (b := true)); decide +kernel) | ((with_reducible apply w_isiS (b := false)); decide +kernel) | ((with_reducible apply w_isiN (b := true)); decide +kernel) | ((with_reducible apply w_isiN (b := false)); decide +kernel) | ((with_reducible apply w_isiL (b := true)); array_mem_dec; decide +kernel) | ((with_reducible apply w_isiL (b := false)); array_mem_dec; decide +kernel) | ((with_reducible apply w_isiT (b := true)); array_mem_dec; decide +kernel) | ((with_reducible apply w_isiT (b := false)); array_mem_dec; decide +kernel) | (with_reducible refine w_notT ?_) | (with_reducible refine w_chain ?_) | ((with_reducible apply w_trL); array_mem_dec) | ((with_reducible apply w_gTup); array_mem_dec; exact rfl) | ((with_reducible apply w_gLst); array_mem_dec; exact rfl) | (with_reducible refine w_gCons ?_) | (with_reducible refine w_gNil ?_) | (with_reducible refine w_Fld ?_) | (with_reducible refine w_sFld ?_) | (with_reducible refine w_dget ?_) | (with_reducible refine w_dIn ?_) | (with_reducible refine w_dNotIn ?_) | (with_reducible refine w_sDPut ?_) | (with_reducible refine w_dnewK ?_) | (with_reducible refine w_meth ?_) | (with_reducible refine w_make ?_) | (with_reducible refine w_methS ?_) | (with_reducible refine w_makeS ?_) | (with_reducible refine w_dpop ?_) | ((with_reducible apply w_fld1); array_mem_dec; (with_reducible assumption); (with_reducible assumption); exact rfl) | ((with_reducible apply w_sfld1); array_mem_dec; (with_reducible assumption); (with_reducible assumption); exact Nat.le_of_ble_eq_true rfl) | ((with_reducible apply w_meth1); array_mem_dec; exact rfl) | ((with_reducible apply w_dgetS); array_mem_dec; (with_reducible assumption)) | ((with_reducible apply w_dgetI); array_mem_dec; (with_reducible assumption)) | ((with_reducible apply w_dinS); array_mem_dec) | ((with_reducible apply w_dputI); array_mem_dec; (try (first | (with_reducible assumption) | omega | (rw [sizeLine_eq]; omega)))) | ((with_reducible apply w_dputS); array_mem_dec; (try (first | (with_reducible assumption) | omega | (rw [sizeLine_eq]; omega)))) | ((with_reducible apply w_isD); array_mem_dec) | ((with_reducible apply w_dictD); array_mem_dec) | ((with_reducible apply w_dpopS); array_mem_dec; (with_reducible assumption)) | ((with_reducible apply w_setL); array_mem_dec; exact rfl) | ((with_reducible apply w_cat); array_mem_dec; array_mem_dec; (try (first | (with_reducible assumption) | omega | (rw [sizeLine_eq]; omega)))) | (with_reducible refine w_iKeys ?_) | (with_reducible refine w_dget2 ?_) | (with_reducible refine w_scX ?_) | ((with_reducible apply w_keysF); array_mem_dec) | ((with_reducible apply w_dgetSF); array_mem_dec; (with_reducible assumption)))
section
variable {P : Program} {w : World} {K : PySem.W.Frag} {mg : Str → Option Value} {base : Heap}
theorem take_one {α : Type} {l : List α} {i : Nat} {x : α} (h : l[i]? = some x) : l.take (i + 1) = l.take i ++ [x] := by
  rw [List.take_add_one, h]; rfl
theorem applyA_take {l : Nm} {cs : List Chg} {i : Nat} {c : Chg} (h : cs[i]? = some c) : applyA l (cs.take (i + 1)) = applyC (applyA l (cs.take i)) c := by
  rw [take_one h, applyA_app]; rfl
theorem okA_at {l : Nm} {cs : List Chg} {i : Nat} {c : Chg} (ok : okA l cs) (h : cs[i]? = some c) : okC (applyA l (cs.take i)) c := by
  have h2 := okA_take ok (i + 1)
  rw [take_one h, okA_app] at h2
  exact h2.2.1
theorem ok_applied (M : Nms K mg) : FnOk P w K mg base CX0 1 M.a_applied M.d_applied ["names", "changes"] spApplied := by
  refine M.F_applied.ok sc_applied (fun vs H Q E h => ?_) (fun cdv A outer s H vs Q E hr h => ?_)
  · obtain ⟨n, c, ts, l, cs, rfl, _⟩ := h
    rfl
  · have hu := hu1 hr
    have clD := M.clD
    have nD_kept := M.nD_kept
    have nD_late := M.nD_late
    have nD_names := M.nD_names
    have nD_sure := M.nD_sure
    have nD_changes := M.nD_changes
    have nD_next := M.nD_next
    refine ⟨_, (pss_cons (ps_set (i := 2) sc_applied.nd rfl (Or.inl rfl) (pe_callTy call_dictD (by rfl) M.T.b_dict (by decide +kernel) (pa_cons (pv 0) pa_nil)))
    (pss_cons (ps_for PassesOwn.never rfl (pi_list (pv 1)) (pg_tup rfl (pgs_cons (pg_name (i := 3) sc_applied.nd rfl (Or.inl rfl)) (pgs_cons (pg_name (i := 4) sc_applied.nd rfl (Or.inl rfl)) (pgs_cons (pg_name (i := 5) sc_applied.nd rfl (Or.inl rfl)) pgs_nil)))) (pss_one (ps_if (pt_cmpR op_eq (pv 3) pe_str (nomark _)) (pss_one (ps_dput hu (pv 2) (pv 4) (pv 5) rfl)) (pss_one (ps_if (pt_cmpR op_eq (pv 3) pe_str (nomark _)) (pss_one (ps_dput hu (pv 2) (pv 5) (pe_dpop1 (pv 2) (pv 4) ⟨rfl, rfl, rfl, rfl⟩) rfl)) (pss_one (ps_expr (pe_dpop1 (pv 2) (pv 4) ⟨rfl, rfl, rfl, rfl⟩))))))))
    (pss_one (ps_ret (pv 2))))), ?_⟩
    try dsimp only [cxOf, Cx.nox]
    obtain ⟨n, c, ts, l, cs, rfl, hn, hc, tp, ok, hl, q⟩ := h
    refine w_start (σ' := [some (.ref n), some (.ref c), none, none, none, none]) rfl ?_
    (repeat array_get_dec)
    intro p hp
    (repeat array_get_dec)
    have hlen := tp.len
    refine for_list (K := K) (a := c) (xs := ts.map V.ref) (fun i σ H' => ∃ v3 v4 v5, σ = [some (.ref n), some (.ref c), some (.ref p), v3, v4, v5] ∧ (∀ b, b ≠ p → H' b = H b) ∧ H' p = some (.dK (kvT (applyA l (cs.take i))))) ⟨none, none, none, rfl, fun b hb => upd_ne hb, upd_same⟩ ?_ ?_ ?_
    · rintro i σ H' hi ⟨v3, v4, v5, rfl, hs, hpp⟩
      exact SqL.of (by rw [hs c (ne_of_none hc hp)]; exact hc)
    · rintro i v σ H' hv ⟨v3, v4, v5, rfl, hs, hpp⟩
      obtain ⟨t, ht, rfl⟩ : ∃ t, ts[i]? = some t ∧ v = .ref t := by
        rw [List.getElem?_map] at hv
        cases e : ts[i]? with
        | none => rw [e] at hv; cases hv
        | some t => rw [e] at hv; exact ⟨t, rfl, (Option.some.inj hv).symm⟩
      obtain ⟨ch, hch, htt⟩ := tp.get i ht
      have htt' : H' t = some (.tup (tupC ch)) := by rw [hs t (ne_of_none htt hp)]; exact htt
      have okc := okA_at ok hch
      have next : ∀ H2 : Hp, (∀ b, b ≠ p → H2 b = H' b) → H2 p = some (.dK (kvT (applyC (applyA l (cs.take i)) ch))) → (∀ b, b ≠ p → H2 b = H b) ∧ H2 p = some (.dK (kvT (applyA l (cs.take (i + 1))))) := fun H2 a b => ⟨fun x nx => (a x nx).trans (hs x nx), by rw [applyA_take hch]; exact b⟩
      have hi : i < cs.length := by rw [← hlen]; exact (List.getElem?_eq_some_iff.mp ht).1
      have ll : (applyA l (cs.take i)).length < 1000000 := by
        have := applyA_len (cs.take i) l
        rw [List.length_take] at this
        omega
      generalize hN : applyA l (cs.take i) = N at *
      have lz : (kvT N).length < sizeLine := by rw [kvT_len, sizeLine_eq]; omega
      cases ch with
      | make x m =>
        unfold tupC at htt'
        (repeat array_get_dec)
        rw [kvT_put]
        exact ⟨_, _, _, rfl, next _ (fun b nb => upd_ne nb) upd_same⟩
      | move x y =>
        unfold tupC at htt'
        (repeat array_get_dec)
        obtain ⟨m, hm⟩ := Option.isSome_iff_exists.mp (show (getA N x).isSome = true from okc)
        have e1 : valV (kvT N) (Sum.inr (mkS x)) = some (.int ((m : Nat) : Int)) := by rw [kvT_val, hm]; rfl
        have lz2 : (dropK (kvT N) (Sum.inr (mkS x))).length < sizeLine := by
          rw [kvT_drop, kvT_len]
          have := dropA_len (l := N) (x := x)
          rw [sizeLine_eq]; omega
        (repeat array_get_dec)
        rw [kvT_drop, kvT_put]
        refine ⟨_, _, _, rfl, next _ (fun b nb => by rw [upd_ne nb, upd_ne nb]) ?_⟩
        rw [upd_same, show applyC N (.move x y) = (match getA N x with | some n => putA (dropA N x) y n | none => N) from rfl, hm]
      | drop x =>
        unfold tupC at htt'
        (repeat array_get_dec)
        obtain ⟨m, hm⟩ := Option.isSome_iff_exists.mp (show (getA N x).isSome = true from okc)
        have e1 : valV (kvT N) (Sum.inr (mkS x)) = some (.int ((m : Nat) : Int)) := by rw [kvT_val, hm]; rfl
        (repeat array_get_dec)
        rw [kvT_drop]
        exact ⟨_, _, _, rfl, next _ (fun b nb => upd_ne nb) upd_same⟩
    · rintro σ H' ⟨v3, v4, v5, rfl, hs, hpp⟩
      (repeat array_get_dec)
      refine q p H' (fun b o e => by rw [hs b (ne_of_none e hp)]; exact e) hp ?_
      rw [List.length_map, hlen, List.take_length] at hpp
      exact hpp
theorem ok_Disk__change (M : Nms K mg) : FnOk P w K mg base CX0 2 M.a_Disk__change M.d_Disk__change ["self", "row"] (spChange M.CD) := by
  refine M.F_Disk__change.ok sc_Disk__change (fun vs H Q E h => ?_) (fun cdv A outer s H vs Q E hr h => ?_)
  · obtain ⟨a, t, fp, D, ch, rfl, _⟩ := h
    rfl
  · have hu := hu1 hr
    have clD := M.clD
    have nD_kept := M.nD_kept
    have nD_late := M.nD_late
    have nD_names := M.nD_names
    have nD_sure := M.nD_sure
    have nD_changes := M.nD_changes
    have nD_next := M.nD_next
    refine ⟨_, (pss_cons (ps_expr (pe_bm PySem.F.plainAttrs_list PySem.F.slot_list_append PySem.F.type_list_append mt_append (pe_fld (pv 0) rfl) (pa_cons (pv 1) pa_nil)))
    (pss_one (ps_fld (pv 0) (pe_call (ok_applied M) (hr.mono (by decide)) rfl M.g_applied M.k_applied M.b_applied .nil pass0 (pa_cons (pe_fld (pv 0) rfl) (pa_cons (pe_lst (pa_cons (pv 1) pa_nil)) pa_nil))) rfl))), ?_⟩
    try dsimp only [cxOf, Cx.nox]
    obtain ⟨a, t, fp, D, ch, rfl, dk, ht, okc, sm2, q⟩ := h
    have nt := dk.noTup _ _ ht
    obtain ⟨k, l, n, sa, c, ts, rfl, ⟨nd, ⟨dx, hi⟩, hk, hl, hn, hs, hc, tp, sm⟩⟩ := dk
    refine w_start (σ' := [some (.ref a), some (.ref t)]) rfl ?_
    have lc : (ts.map V.ref).length < sizeLine := by rw [List.length_map, tp.len, sizeLine_eq]; have := sm.ch; omega
    simp only [List.nodup_cons, List.mem_cons, List.not_mem_nil, or_false, not_or] at nd nt
    obtain ⟨⟨n1, n2, n3, n4, n5⟩, ⟨n6, n7, n8, n9⟩, ⟨n10, n11, n12⟩, ⟨n13, n14⟩, n15, _⟩ := nd
    obtain ⟨m1, m2, m3, m4, m5, m6⟩ := nt
    (repeat array_get_dec)
    refine ⟨by show 1 ≤ sizeLine; decide, fun p hp => ?_⟩
    obtain ⟨p1, p2⟩ := hu2 hp
    (repeat array_get_dec)
    have gn : upd (upd H c (.lst (ts.map V.ref ++ [.ref t]))) p (.lst [.ref t]) n = some (.dK (kvT D.names)) := by array_mem_dec
    have gt : upd (upd H c (.lst (ts.map V.ref ++ [.ref t]))) p (.lst [.ref t]) t = some (.tup (tupC ch)) := by array_mem_dec
    refine ⟨n, p, [t], D.names, [ch], rfl, gn, upd_same, ⟨gt, trivial⟩, ⟨okc, trivial⟩, by have := sm.names; simp; omega, fun p3 H3 s3 f3 g3 => ?_⟩
    have g3' : H3 p3 = some (.dK (kvT (applyC D.names ch))) := g3
    have fr : ∀ b o, H b = some o → b ≠ c → H3 b = some o := fun b o e nb => s3 _ _ (by rw [upd_ne (ne_of_none e p2), upd_ne nb]; exact e)
    have gi := fr _ _ hi n5
    have gk := fr _ _ hk n9
    have gl := fr _ _ hl n12
    have gs := fr _ _ hs n15
    have gc : H3 c = some (.lst ((ts ++ [t]).map V.ref)) := s3 _ _ (by rw [upd_ne (ne_of_none hc p2), upd_same, List.map_append]; rfl)
    have gtp : ChAt H3 (ts ++ [t]) (D.ch ++ [ch]) := (tp.keep fun u m o e => fr u o e fun z => by
      obtain ⟨ch', e'⟩ := tp.tup m
      rw [z, hc] at e'
      cases e').snoc (s3 _ _ gt)
    obtain ⟨f3a, f3b⟩ := hu2 f3
    obtain ⟨f3c, f3d⟩ := hu2 f3b
    have d1 := ne_of_none hi f3d
    have d2 := ne_of_none hk f3d
    have d3 := ne_of_none hl f3d
    have d4 := ne_of_none hs f3d
    have d5 := ne_of_none hc f3d
    have tn : ∀ u ∈ ts ++ [t], u ≠ a := fun u m z => by
      rcases List.mem_append.mp m with m | m
      · obtain ⟨ch', e'⟩ := tp.tup m
        rw [z, hi] at e'
        cases e'
      · simp at m
        exact m1 (m.symm.trans z)
    (repeat array_get_dec)
    refine q _ [a, k, l, p3, sa, c] ⟨k, l, p3, sa, c, ts ++ [t], rfl, ⟨(by simp only [List.nodup_cons, List.mem_cons, List.not_mem_nil, or_false, not_or]; refine ⟨⟨?_, ?_, ?_, ?_, ?_⟩, ⟨?_, ?_, ?_, ?_⟩, ⟨?_, ?_, ?_⟩, ⟨?_, ?_⟩, ?_, not_false, List.nodup_nil⟩ <;> first | assumption | (apply Ne.symm; assumption)), ⟨dx, upd_same⟩, by array_mem_dec, by array_mem_dec, by array_mem_dec, by array_mem_dec, by array_mem_dec, ?_, sm2⟩⟩ ⟨fun b o e nb => ?_, fun b m => ?_⟩
    · exact gtp.keep fun u m o e => by rw [upd_ne (tn u m)]; exact e
    · simp only [List.mem_cons, List.not_mem_nil, or_false, not_or] at nb
      rw [upd_ne nb.1]
      exact fr b o e nb.2.2.2.2.2
    · simp only [List.mem_cons, List.not_mem_nil, or_false] at m ⊢
      rcases m with rfl | rfl | rfl | rfl | rfl | rfl
      · exact .inl (by simp)
      · exact .inl (by simp)
      · exact .inl (by simp)
      · exact .inr f3d
      · exact .inl (by simp)
      · exact .inl (by simp)
end
end K50

namespace K50
open PySem PySem.Spec PyProof.Rows L2
local macro_rules | `(tactic| array_mem_dec) => `(tactic| first | with_reducible assumption | with_reducible exact upd_same | ((with_reducible apply same_at); (with_reducible assumption); array_mem_dec) | ((with_reducible apply upd_atN); (with_reducible assumption); array_mem_dec) | ((with_reducible apply upd_at); (first | with_reducible assumption | (apply Ne.symm; with_reducible assumption)); array_mem_dec))
local macro_rules | `(tactic| array_get_dec) => `(tactic| first | (with_reducible refine w_seq ?_) | (with_reducible refine w_asg ?_) | (with_reducible refine w_drop ?_) | (with_reducible refine w_ret ?_) | (with_reducible refine w_retN ?_) | (with_reducible refine w_next ?_) | (with_reducible refine w_break ?_) | (with_reducible refine w_cont ?_) | (with_reducible refine w_ifS ?_) | (with_reducible refine w_sub ?_) | (with_reducible refine w_c ?_) | (with_reducible refine w_op ?_) | (with_reducible refine w_un ?_) | (with_reducible refine w_test ?_) | (with_reducible refine w_B ?_) | (with_reducible refine w_yes ?_) | (with_reducible refine w_not ?_) | (with_reducible refine w_and ?_) | (with_reducible refine w_or ?_) | (with_reducible refine w_andV ?_) | (with_reducible refine w_orV ?_) | (with_reducible refine w_notV ?_) | (with_reducible refine w_ifE ?_) | (with_reducible refine w_nil ?_) | (with_reducible refine w_cons ?_) | (with_reducible refine w_call ?_) | (with_reducible refine w_callS ?_) | (with_reducible refine w_cB ?_) | (with_reducible refine w_lst ?_) | (with_reducible refine w_tup ?_) | (with_reducible refine w_sl ?_) | (with_reducible refine w_noPart ?_) | (with_reducible refine w_part ?_) | (with_reducible refine w_bm ?_) | (with_reducible refine w_bm0 ?_) | (with_reducible refine w_strTy ?_) | (with_reducible refine w_bl ?_) | (with_reducible refine w_int1 ?_) | (with_reducible refine w_str1 ?_) | (with_reducible refine w_rI0 ?_) | (with_reducible refine w_rU ?_) | (with_reducible refine w_eqI ?_) | (with_reducible refine w_eqS ?_) | (with_reducible refine w_neI ?_) | (with_reducible refine w_neS ?_) | (with_reducible refine w_bl2 ?_) | (with_reducible refine w_isN ?_) | (with_reducible refine w_for ?_) | (with_reducible refine w_iRng1 ?_) | (with_reducible refine w_iRng2 ?_) | (with_reducible refine w_iList ?_) | (with_reducible refine w_iTup ?_) | (with_reducible refine w_iStr ?_) | (with_reducible refine w_lc ?_) | (with_reducible refine w_M1 ?_) | (with_reducible refine w_M0 ?_) | (with_reducible refine w_isS ?_) | ((with_reducible apply w_name); (simp only [wipe, List.map_cons, List.map_nil, List.foldl_cons, List.foldl_nil, List.set_cons_zero, List.set_cons_succ]; exact rfl)) | ((with_reducible apply w_var); exact rfl) | ((with_reducible apply w_lstTy); array_mem_dec) | ((with_reducible apply w_lenL); array_mem_dec) | ((with_reducible apply w_lenT); array_mem_dec) | ((with_reducible apply w_listOf); array_mem_dec) | ((with_reducible apply w_lenS); (first | (with_reducible assumption) | omega | (rw [sizeLine_eq]; omega))) | ((with_reducible apply w_slS); (first | (with_reducible assumption) | omega | (rw [sizeLine_eq]; omega))) | ((with_reducible apply w_wipe); exact rfl) | ((with_reducible apply w_acc); array_mem_dec; (try (first | (with_reducible assumption) | omega | (rw [sizeLine_eq]; omega)))) | ((with_reducible apply w_itl); array_mem_dec) | ((with_reducible apply w_itt); array_mem_dec) | ((with_reducible apply w_append); array_mem_dec; (try (first | (with_reducible assumption) | omega | (rw [sizeLine_eq]; omega)))) | ((with_reducible apply w_rng1); (first | (with_reducible assumption) | omega); (first | (with_reducible assumption) | omega)) | ((with_reducible apply w_ixL); array_mem_dec; (first | (with_reducible assumption) | exact rfl | (apply atI_nat; (with_reducible assumption)) | exact atI_last _ _)) | ((with_reducible apply w_ixT); array_mem_dec; (first | (with_reducible assumption) | exact rfl | (apply atI_nat; (with_reducible assumption)) | exact atI_last _ _)) | ((with_reducible apply w_iT); first | exact rfl | (with_reducible assumption)) | ((with_reducible apply w_iF); first | exact rfl | (with_reducible assumption)) | ((with_reducible apply w_isiI (b := true)); decide +kernel) | ((with_reducible apply w_isiI (b := false)); decide +kernel) | ((with_reducible apply w_isiB (b := true)); decide +kernel) | ((with_reducible apply w_isiB (b := false)); decide +kernel) | ((with_reducible apply w_isiS (b := true)); decide +kernel) | ((with_reducible apply w_isiS (b := false)); decide +kernel) | ((with_reducible apply w_isiN (b := true)); decide +kernel) | ((with_reducible apply w_isiN (b := false)); decide +kernel) | ((with_reducible apply w_isiL (b := true)); array_mem_dec; decide +kernel) | ((with_reducible apply w_isiL (b := false)); array_mem_dec; decide +kernel) | ((with_reducible apply w_isiT (b := true)); array_mem_dec; decide +kernel) | ((with_reducible apply w_isiT (b := false)); array_mem_dec; decide +kernel) | (with_reducible refine w_notT ?_) | (with_reducible refine w_chain ?_) | ((with_reducible apply w_trL); array_mem_dec) | ((with_reducible apply w_gTup); array_mem_dec; exact rfl) | ((with_reducible apply w_gLst); array_mem_dec; exact rfl) | (with_reducible refine w_gCons ?_) | (with_reducible refine w_gNil ?_) | (with_reducible refine w_Fld ?_) | (with_reducible refine w_sFld ?_) | (with_reducible refine w_dget ?_) | (with_reducible refine w_dIn ?_) | (with_reducible refine w_dNotIn ?_) | (with_reducible refine w_sDPut ?_) | (with_reducible refine w_dnewK ?_) | (with_reducible refine w_meth ?_) | (with_reducible refine w_make ?_) | (with_reducible refine w_methS ?_) | (with_reducible refine w_makeS ?_) | (with_reducible refine w_dpop ?_) | ((with_reducible apply w_fld1); array_mem_dec; (with_reducible assumption); (with_reducible assumption); exact rfl) | ((with_reducible apply w_sfld1); array_mem_dec; (with_reducible assumption); (with_reducible assumption); exact Nat.le_of_ble_eq_true rfl) | ((with_reducible apply w_meth1); array_mem_dec; exact rfl) | ((with_reducible apply w_dgetS); array_mem_dec; (with_reducible assumption)) | ((with_reducible apply w_dgetI); array_mem_dec; (with_reducible assumption)) | ((with_reducible apply w_dinS); array_mem_dec) | ((with_reducible apply w_dputI); array_mem_dec; (try (first | (with_reducible assumption) | omega | (rw [sizeLine_eq]; omega)))) | ((with_reducible apply w_dputS); array_mem_dec; (try (first | (with_reducible assumption) | omega | (rw [sizeLine_eq]; omega)))) | ((with_reducible apply w_isD); array_mem_dec) | ((with_reducible apply w_dictD); array_mem_dec) | ((with_reducible apply w_dpopS); array_mem_dec; (with_reducible assumption)) | ((with_reducible apply w_setL); array_mem_dec; exact rfl) | ((with_reducible apply w_cat); array_mem_dec; array_mem_dec; (try (first | (with_reducible assumption) | omega | (rw [sizeLine_eq]; omega)))) | (with_reducible refine w_iKeys ?_) | (with_reducible refine w_dget2 ?_) | (with_reducible refine w_scX ?_) | ((with_reducible apply w_keysF); array_mem_dec) | ((with_reducible apply w_dgetSF); array_mem_dec; (with_reducible assumption)))
theorem mk_nil {x : Tx} : (V.str (mkS x) = V.str (Str.ofString "")) ↔ x = [] := ⟨fun z => by have := congrArg tl (V.str.inj z); exact this, fun z => by rw [z]; rfl⟩
theorem in63 {t : Tx} : (63 ∈ t) ↔ (63 ∈ (mkS t).cps.toList) := Iff.rfl
theorem DiskP.next {CD : Addr} {H : Hp} {a : Addr} {fp : List Addr} {D : DS} (x : DiskN CD H a fp D) : ∃ dx k l n s c, H a = some (.ins CD dx (dF k l n s c D.next)) ∧ a ∈ fp ∧ DiskN CD (upd H a (.ins CD dx (dF k l n s c (D.next + 1)))) a fp (nextD D) := by
  have nt := x.noTup
  obtain ⟨k, l, n, s, c, ts, rfl, ⟨nd, ⟨dx, hi⟩, hk, hl, hn, hs, hc, tp, sm⟩⟩ := x
  refine ⟨dx, k, l, n, s, c, hi, by simp, ⟨k, l, n, s, c, ts, rfl, ⟨nd, ⟨dx, upd_same⟩, ?_, ?_, ?_, ?_, ?_, ?_, ⟨sm.kept, sm.late, sm.names, sm.sure, sm.ch, sm.kt, sm.lt, sm.na⟩⟩⟩⟩
  all_goals (simp only [List.nodup_cons, List.mem_cons, List.not_mem_nil, or_false, not_or] at nd)
  · rw [upd_ne (Ne.symm nd.1.1)]; exact hk
  · rw [upd_ne (Ne.symm nd.1.2.1)]; exact hl
  · rw [upd_ne (Ne.symm nd.1.2.2.1)]; exact hn
  · rw [upd_ne (Ne.symm nd.1.2.2.2.1)]; exact hs
  · rw [upd_ne (Ne.symm nd.1.2.2.2.2)]; exact hc
  · refine tp.keep fun u m o e => ?_
    obtain ⟨ch, e2⟩ := tp.tup m
    rw [upd_ne fun z => nt u _ e2 (by rw [z]; simp)]
    exact e
section
variable {P : Program} {w : World} {K : PySem.W.Frag} {mg : Str → Option Value} {base : Heap}
theorem ok_Disk_make (M : Nms K mg) : FnOk P w K mg base (L2N.CX P w) 3 M.a_Disk_make M.d_Disk_make ["self", "name"] (spMake M.CD M.CP M.CU) := by
  refine M.F_Disk_make.okN sc_Disk_make (fun vs H Q E h => ?_) (fun cdv A outer s H vs Q E hr h => ?_)
  · obtain ⟨a, x, fp, D, rfl, _⟩ := h
    rfl
  · have hu := hu1 hr
    have clD := M.clD
    have nD_kept := M.nD_kept
    have nD_late := M.nD_late
    have nD_names := M.nD_names
    have nD_sure := M.nD_sure
    have nD_changes := M.nD_changes
    have nD_next := M.nD_next
    refine ⟨_, (pss_cons (ps_if (PW.pt (pw_or (pt_not (pt_val (pe_callB call_isi (by rfl) M.T.b_isinstance (by decide +kernel) (pa_cons (pv 1) (pa_cons (pe_bltn (v := .ty "str") (u := .type "str") (by rfl) M.T.b_str (by decide +kernel) rfl) pa_nil))))) (pw_or (pt_cmpR op_eq (pv 1) pe_str (nomark _)) (pw_or1 (pt_cmp (pc_din hu (pv 1) (pe_fld (pv 0) rfl))))))) (pss_one (L2N.ps_raise rfl (L2N.takes_of rfl rfl rfl rfl) (L2N.pmk_own PySem.F.excBase_ValueError M.XP.xP M.XP.gP M.XP.kP (raises_own M.XP.bP M.XP.tP) rfl))) pss_nil)
    (pss_cons (ps_dput hu (pe_fld (pv 0) rfl) (pe_fld (pv 0) rfl) pe_str rfl)
    (pss_cons (ps_dput hu (pe_fld (pv 0) rfl) (pe_fld (pv 0) rfl) pe_str rfl)
    (pss_cons (ps_expr (pe_meth (pv 0) M.clD M.m_Disk__change (ok_Disk__change M) (hr.mono (by decide)) M.b_Disk__change .nil pass0 (pa_cons (pe_tup (pa_cons pe_str (pa_cons (pv 1) (pa_cons (pe_fld (pv 0) rfl) pa_nil)))) pa_nil)))
    (pss_one (ps_fld (pv 0) (pe_op op_add (pe_fld (pv 0) rfl) pe_int) rfl)))))), ?_⟩
    try dsimp only [cxOf, Cx.nox]
    obtain ⟨a, x, fp, D, rfl, dk, sm2, q⟩ := h
    have dk' := dk
    obtain ⟨⟨k, l, n, sa, c, ts, rfl, ⟨nd, ⟨dx, hi⟩, hk, hl, hn, hs, hc, tp, sm⟩⟩, wfd⟩ := dk'
    refine w_start (σ' := [some (.ref a), some (sv x)]) rfl ?_
    have nd0 := nd
    simp only [List.nodup_cons, List.mem_cons, List.not_mem_nil, or_false, not_or] at nd
    obtain ⟨⟨n1, n2, n3, n4, n5⟩, ⟨n6, n7, n8, n9⟩, ⟨n10, n11, n12⟩, ⟨n13, n14⟩, n15, _⟩ := nd
    simp only [step] at q sm2
    (repeat array_get_dec)
    refine ite2 (fun hx => ?_) (fun hx => ?_)
    · rw [if_pos (.inl (mk_nil.mp (of_decide_eq_true hx)))] at q
      (repeat array_get_dec)
      exact q _ _ dk (Fr.refl _ _)
    have hx0 : ¬ x = [] := fun z => hx (decide_eq_true (mk_nil.mpr z))
    (repeat array_get_dec)
    rw [kvT_val]
    cases e : getA D.names x with
    | some i =>
      rw [if_pos (.inr (by unfold hasA; rw [e]; rfl))] at q
      refine iteT' rfl ?_
      (repeat array_get_dec)
      exact q _ _ dk (Fr.refl _ _)
    | none =>
      rw [if_neg (fun z => z.elim hx0 fun y => by unfold hasA at y; rw [e] at y; cases y)] at q sm2
      refine iteF' rfl ?_
      have z1 : (kvM D.kept).length < sizeLine := by rw [kvM_len, sizeLine_eq]; have := sm.kept; omega
      have z2 : (kvM D.late).length < sizeLine := by rw [kvM_len, sizeLine_eq]; have := sm.late; omega
      have ek : putK (kvM D.kept) (Sum.inl ((D.next : Nat) : Int)) (.str (Str.ofString "")) = kvM (putA D.kept D.next []) := kvM_put _ _ _
      have el : putK (kvM D.late) (Sum.inl ((D.next : Nat) : Int)) (.str (Str.ofString "")) = kvM (putA D.late D.next []) := kvM_put _ _ _
      (repeat array_get_dec)
      rw [ek, el]
      refine ⟨by show 3 ≤ sizeLine; decide, fun t ht => ?_⟩
      obtain ⟨t1, t2⟩ := hu2 ht
      obtain ⟨t3, t4⟩ := hu2 t2
      have d1 := ne_of_none hi t4
      have d2 := ne_of_none hn t4
      have d3 := ne_of_none hs t4
      have d4 := ne_of_none hc t4
      have tp2 : ∀ u ∈ ts, u ≠ k ∧ u ≠ l ∧ u ≠ t := fun u m => by
        obtain ⟨ch', e'⟩ := tp.tup m
        exact ⟨fun z => (by rw [z, hk] at e'; cases e'), fun z => (by rw [z, hl] at e'; cases e'), ne_of_none e' t4⟩
      (repeat array_get_dec)
      refine ⟨a, t, [a, k, l, n, sa, c], openD D, .make x D.next, rfl, ⟨k, l, n, sa, c, ts, rfl, ⟨nd0, ⟨dx, by ((repeat (first | with_reducible exact upd_same | with_reducible refine (upd_ne (by first | assumption | (apply Ne.symm; assumption))).trans ?_)); (try (first | assumption | exact upd_same)))⟩, by ((repeat (first | with_reducible exact upd_same | with_reducible refine (upd_ne (by first | assumption | (apply Ne.symm; assumption))).trans ?_)); (try (first | assumption | exact upd_same))), by ((repeat (first | with_reducible exact upd_same | with_reducible refine (upd_ne (by first | assumption | (apply Ne.symm; assumption))).trans ?_)); (try (first | assumption | exact upd_same))), by ((repeat (first | with_reducible exact upd_same | with_reducible refine (upd_ne (by first | assumption | (apply Ne.symm; assumption))).trans ?_)); (try (first | assumption | exact upd_same))), by ((repeat (first | with_reducible exact upd_same | with_reducible refine (upd_ne (by first | assumption | (apply Ne.symm; assumption))).trans ?_)); (try (first | assumption | exact upd_same))), by ((repeat (first | with_reducible exact upd_same | with_reducible refine (upd_ne (by first | assumption | (apply Ne.symm; assumption))).trans ?_)); (try (first | assumption | exact upd_same))), tp.keep fun u m o e => by
        obtain ⟨a1, a2, a3⟩ := tp2 u m
        rw [upd_ne a3, upd_ne a2, upd_ne a1]
        exact e, ⟨sm2.kept, sm2.late, sm.names, sm.sure, sm.ch, sm2.kt, sm2.lt, sm.na⟩⟩⟩, upd_same, e, ⟨sm2.kept, sm2.late, sm2.names, sm2.sure, sm2.ch, sm2.kt, sm2.lt, sm2.na⟩, fun H' fp' dk2 fr => ?_⟩
      obtain ⟨dx', k', l', n', s', c', gi, ma, nxt⟩ := DiskP.next dk2
      (repeat array_get_dec)
      refine q _ fp' ⟨nxt, wf_make wfd e⟩ ?_
      exact (((((Fr.refl _ H).put (a := k) (by simp)).put (a := l) (by simp)).neu ht).trans fr).put (by simp)
theorem ok_Disk_write (M : Nms K mg) : FnOk P w K mg base (L2N.CX P w) 2 M.a_Disk_write M.d_Disk_write ["self", "name", "text"] (spWrite M.CD M.CP M.CU) := by
  obtain ⟨tSP, GSP⟩ := M.cSP
  refine M.F_Disk_write.okN sc_Disk_write (fun vs H Q E h => ?_) (fun cdv A outer s H vs Q E hr h => ?_)
  · obtain ⟨a, x, t, fp, D, rfl, _⟩ := h
    rfl
  · have hu := hu1 hr
    have clD := M.clD
    have nD_kept := M.nD_kept
    have nD_late := M.nD_late
    have nD_names := M.nD_names
    have nD_sure := M.nD_sure
    have nD_changes := M.nD_changes
    have nD_next := M.nD_next
    refine ⟨_, (pss_cons (ps_set (i := 3) sc_Disk_write.nd rfl (Or.inl rfl) (pe_methS1 (pv 0) M.clD M.m_Disk__file (ok_Disk__file M) (hr.mono (by decide)) M.b_Disk__file (fun σ => L2N.passAt (L2N.takes_of rfl rfl rfl rfl) σ) (pa_cons (pv 1) pa_nil)))
    (pss_cons (ps_if (PW.pt (pw_or (pt_not (pt_val (pe_callB call_isi (by rfl) M.T.b_isinstance (by decide +kernel) (pa_cons (pv 2) (pa_cons (pe_bltn (v := .ty "str") (u := .type "str") (by rfl) M.T.b_str (by decide +kernel) rfl) pa_nil))))) (pw_or1 (pt_cmpR op_in_sign (pe_glob (v := .str (Str.ofString "?")) rfl GSP ⟨_, rfl⟩) (pv 2) rfl)))) (pss_one (L2N.ps_raise rfl (L2N.takes_of rfl rfl rfl rfl) (L2N.pmk_own PySem.F.excBase_ValueError M.XP.xP M.XP.gP M.XP.kP (raises_own M.XP.bP M.XP.tP) rfl))) pss_nil)
    (pss_one (ps_dput hu (pe_fld (pv 0) rfl) (pv 3) (pe_op op_add_str (pe_dget hu (pe_fld (pv 0) rfl) (pv 3) (fun _ _ => rfl)) (pv 2)) rfl)))), ?_⟩
    try dsimp only [cxOf, Cx.nox]
    obtain ⟨a, x, t, fp, D, rfl, dk, sm2, q⟩ := h
    have wfs := wf_step dk.2 (.write x t)
    have dk' := dk
    obtain ⟨⟨k, l, n, sa, c, ts, rfl, ⟨nd, ⟨dx, hi⟩, hk, hl, hn, hs, hc, tp, sm⟩⟩, wfd⟩ := dk'
    have nd0 := nd
    simp only [List.nodup_cons, List.mem_cons, List.not_mem_nil, or_false, not_or] at nd
    obtain ⟨⟨n1, n2, n3, n4, n5⟩, ⟨n6, n7, n8, n9⟩, ⟨n10, n11, n12⟩, ⟨n13, n14⟩, n15, _⟩ := nd
    refine w_start (σ' := [some (.ref a), some (sv x), some (sv t), none]) rfl ?_
    simp only [step] at q sm2 wfs
    (repeat array_get_dec)
    refine ⟨a, _, D, x, rfl, dk.1, ?_⟩
    cases e : getA D.names x with
    | none =>
      simp only [e] at q
      exact q _ _ dk (Fr.refl _ _)
    | some i =>
      simp only [e] at q sm2 wfs
      dsimp only [look]
      obtain ⟨t0, u, g1, g2, b1, b2, er, eu, ek⟩ := texts_at wfd sm e
      have e2 : valV (kvM D.late) (Sum.inl ((i : Nat) : Int)) = some (sv u) := by rw [kvM_val, g2]; rfl
      have z2 : (kvM D.late).length < sizeLine := by rw [kvM_len, sizeLine_eq]; have := sm.late; omega
      (repeat array_get_dec)
      refine ⟨63, mkS t, rfl, rfl, ?_⟩
      (repeat array_get_dec)
      by_cases h63 : 63 ∈ t
      · refine iteT' (decide_eq_true h63) ?_
        rw [if_pos h63] at q
        (repeat array_get_dec)
        exact q _ _ dk (Fr.refl _ _)
      · refine iteF' (decide_eq_false h63) ?_
        rw [if_neg h63] at q sm2 wfs
        have es : writeD D i t = { D with late := putA D.late i (u ++ t) } := by
          show ({ D with late := putA D.late i (lateD D i ++ t) } : DS) = _
          rw [eu]
        rw [es] at q sm2 wfs
        have hlen : (u ++ t).length ≤ 400000 := sm2.lt (i, u ++ t) (getA_mem (by rw [getA_put, if_pos rfl]))
        rw [List.length_append] at hlen
        (repeat array_get_dec)
        refine w_addS (fit_add (s := mkS u) (t := mkS t) (a := u.length) (b := t.length) (Nat.le_of_eq (len_tl _)) (Nat.le_of_eq (len_tl _)) (by omega)) ?_
        (repeat array_get_dec)
        have ep : putK (kvM D.late) (Sum.inl ((i : Nat) : Int)) (.str (mkS u ++ mkS t)) = kvM (putA D.late i (u ++ t)) := by
          rw [mkS_app]
          exact kvM_put _ _ _
        rw [ep]
        refine q _ _ ⟨⟨k, l, n, sa, c, ts, rfl, ⟨nd0, ⟨dx, by ((repeat (first | with_reducible exact upd_same | with_reducible refine (upd_ne (by first | assumption | (apply Ne.symm; assumption))).trans ?_)); (try (first | assumption | exact upd_same)))⟩, by ((repeat (first | with_reducible exact upd_same | with_reducible refine (upd_ne (by first | assumption | (apply Ne.symm; assumption))).trans ?_)); (try (first | assumption | exact upd_same))), upd_same, by ((repeat (first | with_reducible exact upd_same | with_reducible refine (upd_ne (by first | assumption | (apply Ne.symm; assumption))).trans ?_)); (try (first | assumption | exact upd_same))), by ((repeat (first | with_reducible exact upd_same | with_reducible refine (upd_ne (by first | assumption | (apply Ne.symm; assumption))).trans ?_)); (try (first | assumption | exact upd_same))), by ((repeat (first | with_reducible exact upd_same | with_reducible refine (upd_ne (by first | assumption | (apply Ne.symm; assumption))).trans ?_)); (try (first | assumption | exact upd_same))), tp.keep fun v m o e => ?_, sm2⟩⟩, wfs⟩ ((Fr.refl _ H).put (by simp))
        obtain ⟨ch', e'⟩ := tp.tup m
        rw [upd_ne fun z => (by rw [z, hl] at e'; cases e')]
        exact e
theorem ok_Disk_sync (M : Nms K mg) : FnOk P w K mg base (L2N.CX P w) 2 M.a_Disk_sync M.d_Disk_sync ["self", "name"] (spSync M.CD M.CP M.CU) := by
  refine M.F_Disk_sync.okN sc_Disk_sync (fun vs H Q E h => ?_) (fun cdv A outer s H vs Q E hr h => ?_)
  · obtain ⟨a, x, fp, D, rfl, _⟩ := h
    rfl
  · have hu := hu1 hr
    have clD := M.clD
    have nD_kept := M.nD_kept
    have nD_late := M.nD_late
    have nD_names := M.nD_names
    have nD_sure := M.nD_sure
    have nD_changes := M.nD_changes
    have nD_next := M.nD_next
    refine ⟨_, (pss_cons (ps_set (i := 2) sc_Disk_sync.nd rfl (Or.inl rfl) (pe_methS1 (pv 0) M.clD M.m_Disk__file (ok_Disk__file M) (hr.mono (by decide)) M.b_Disk__file (fun σ => L2N.passAt (L2N.takes_of rfl rfl rfl rfl) σ) (pa_cons (pv 1) pa_nil)))
    (pss_cons (ps_dput hu (pe_fld (pv 0) rfl) (pv 2) (pe_op op_add_str (pe_dget hu (pe_fld (pv 0) rfl) (pv 2) (fun _ _ => rfl)) (pe_dget hu (pe_fld (pv 0) rfl) (pv 2) (fun _ _ => rfl))) rfl)
    (pss_one (ps_dput hu (pe_fld (pv 0) rfl) (pv 2) pe_str rfl)))), ?_⟩
    try dsimp only [cxOf, Cx.nox]
    obtain ⟨a, x, fp, D, rfl, dk, sm2, q⟩ := h
    have wfs := wf_step dk.2 (.sync x)
    have dk' := dk
    obtain ⟨⟨k, l, n, sa, c, ts, rfl, ⟨nd, ⟨dx, hi⟩, hk, hl, hn, hs, hc, tp, sm⟩⟩, wfd⟩ := dk'
    have nd0 := nd
    simp only [List.nodup_cons, List.mem_cons, List.not_mem_nil, or_false, not_or] at nd
    obtain ⟨⟨n1, n2, n3, n4, n5⟩, ⟨n6, n7, n8, n9⟩, ⟨n10, n11, n12⟩, ⟨n13, n14⟩, n15, _⟩ := nd
    refine w_start (σ' := [some (.ref a), some (sv x), none]) rfl ?_
    simp only [step] at q sm2 wfs
    (repeat array_get_dec)
    refine ⟨a, _, D, x, rfl, dk.1, ?_⟩
    cases e : getA D.names x with
    | none =>
      simp only [e] at q
      exact q _ _ dk (Fr.refl _ _)
    | some i =>
      simp only [e] at q sm2 wfs
      dsimp only [look]
      obtain ⟨t0, u, g1, g2, b1, b2, er, eu, ek⟩ := texts_at wfd sm e
      have es : syncD D i = { D with kept := putA D.kept i (t0 ++ u), late := putA D.late i [] } := by
        show ({ D with kept := putA D.kept i (readD D i), late := putA D.late i [] } : DS) = _
        rw [er]
      rw [es] at q sm2 wfs
      have e1 : valV (kvM D.kept) (Sum.inl ((i : Nat) : Int)) = some (sv t0) := by rw [kvM_val, g1]; rfl
      have e2 : valV (kvM D.late) (Sum.inl ((i : Nat) : Int)) = some (sv u) := by rw [kvM_val, g2]; rfl
      have z1 : (kvM D.kept).length < sizeLine := by rw [kvM_len, sizeLine_eq]; have := sm.kept; omega
      have z2 : (kvM D.late).length < sizeLine := by rw [kvM_len, sizeLine_eq]; have := sm.late; omega
      (repeat array_get_dec)
      refine w_addS (fit_add (s := mkS t0) (t := mkS u) (a := t0.length) (b := u.length) (Nat.le_of_eq (len_tl _)) (Nat.le_of_eq (len_tl _)) (by omega)) ?_
      (repeat array_get_dec)
      have ep : putK (kvM D.kept) (Sum.inl ((i : Nat) : Int)) (.str (mkS t0 ++ mkS u)) = kvM (putA D.kept i (t0 ++ u)) := by
        rw [mkS_app]
        exact kvM_put _ _ _
      have el : putK (kvM D.late) (Sum.inl ((i : Nat) : Int)) (.str (Str.ofString "")) = kvM (putA D.late i []) := kvM_put _ _ _
      rw [ep, el]
      refine q _ _ ⟨⟨k, l, n, sa, c, ts, rfl, ⟨nd0, ⟨dx, by ((repeat (first | with_reducible exact upd_same | with_reducible refine (upd_ne (by first | assumption | (apply Ne.symm; assumption))).trans ?_)); (try (first | assumption | exact upd_same)))⟩, by ((repeat (first | with_reducible exact upd_same | with_reducible refine (upd_ne (by first | assumption | (apply Ne.symm; assumption))).trans ?_)); (try (first | assumption | exact upd_same))), upd_same, by ((repeat (first | with_reducible exact upd_same | with_reducible refine (upd_ne (by first | assumption | (apply Ne.symm; assumption))).trans ?_)); (try (first | assumption | exact upd_same))), by ((repeat (first | with_reducible exact upd_same | with_reducible refine (upd_ne (by first | assumption | (apply Ne.symm; assumption))).trans ?_)); (try (first | assumption | exact upd_same))), by ((repeat (first | with_reducible exact upd_same | with_reducible refine (upd_ne (by first | assumption | (apply Ne.symm; assumption))).trans ?_)); (try (first | assumption | exact upd_same))), tp.keep fun v m o e => ?_, sm2⟩⟩, wfs⟩ (((Fr.refl _ H).put (by simp)).put (by simp))
      obtain ⟨ch', e'⟩ := tp.tup m
      rw [upd_ne fun z => (by rw [z, hl] at e'; cases e'), upd_ne fun z => (by rw [z, hk] at e'; cases e')]
      exact e
theorem ok_Disk_cut (M : Nms K mg) : FnOk P w K mg base (L2N.CX P w) 3 M.a_Disk_cut M.d_Disk_cut ["self", "name", "size"] (spCut M.CD M.CP M.CU) := by
  refine M.F_Disk_cut.okN sc_Disk_cut (fun vs H Q E h => ?_) (fun cdv A outer s H vs Q E hr h => ?_)
  · obtain ⟨a, x, m, fp, D, rfl, _⟩ := h
    rfl
  · have hu := hu1 hr
    have clD := M.clD
    have nD_kept := M.nD_kept
    have nD_late := M.nD_late
    have nD_names := M.nD_names
    have nD_sure := M.nD_sure
    have nD_changes := M.nD_changes
    have nD_next := M.nD_next
    refine ⟨_, (pss_cons (ps_set (i := 3) sc_Disk_cut.nd rfl (Or.inl rfl) (pe_methS1 (pv 0) M.clD M.m_Disk__file (ok_Disk__file M) (hr.mono (by decide)) M.b_Disk__file (fun σ => L2N.passAt (L2N.takes_of rfl rfl rfl rfl) σ) (pa_cons (pv 1) pa_nil)))
    (pss_cons (ps_if (pt_not (pt_val (pe_call (ok_is_number M) (hr.mono (by decide)) rfl M.g_is_number M.k_is_number M.b_is_number .nil pass0 (pa_cons (pv 2) (pa_cons pe_int (pa_cons (pe_callB (id := "len") (r := fun xs H Q => ∃ x n, xs = [x] ∧ LenV K x H n ∧ Q (V.int ((n : Nat) : Int)) H) call_len (by rfl) M.T.b_len (by decide +kernel) (pa_cons (pe_methS1 (pv 0) M.clD M.m_Disk_read (ok_Disk_read M) (hr.mono (by decide)) M.b_Disk_read (fun σ => L2N.passAt (L2N.takes_of rfl rfl rfl rfl) σ) (pa_cons (pv 1) pa_nil)) pa_nil)) pa_nil)))))) (pss_one (L2N.ps_raise rfl (L2N.takes_of rfl rfl rfl rfl) (L2N.pmk_own PySem.F.excBase_ValueError M.XP.xP M.XP.gP M.XP.kP (raises_own M.XP.bP M.XP.tP) rfl))) pss_nil)
    (pss_cons (ps_dput hu (pe_fld (pv 0) rfl) (pv 3) (pe_slice sl_str (pe_methS1 (pv 0) M.clD M.m_Disk_read (ok_Disk_read M) (hr.mono (by decide)) M.b_Disk_read (fun σ => L2N.passAt (L2N.takes_of rfl rfl rfl rfl) σ) (pa_cons (pv 1) pa_nil)) po_none (po_some (pv 2))) rfl)
    (pss_one (ps_dput hu (pe_fld (pv 0) rfl) (pv 3) pe_str rfl))))), ?_⟩
    try dsimp only [cxOf, Cx.nox]
    obtain ⟨a, x, m, fp, D, rfl, dk, sm2, q⟩ := h
    have wfs := wf_step dk.2 (.cut x m)
    have dk' := dk
    obtain ⟨⟨k, l, n, sa, c, ts, rfl, ⟨nd, ⟨dx, hi⟩, hk, hl, hn, hs, hc, tp, sm⟩⟩, wfd⟩ := dk'
    have nd0 := nd
    simp only [List.nodup_cons, List.mem_cons, List.not_mem_nil, or_false, not_or] at nd
    obtain ⟨⟨n1, n2, n3, n4, n5⟩, ⟨n6, n7, n8, n9⟩, ⟨n10, n11, n12⟩, ⟨n13, n14⟩, n15, _⟩ := nd
    refine w_start (σ' := [some (.ref a), some (sv x), some (vIB m), none]) rfl ?_
    simp only [step] at q sm2 wfs
    (repeat array_get_dec)
    refine ⟨a, _, D, x, rfl, dk.1, ?_⟩
    cases e : getA D.names x with
    | none =>
      simp only [e] at q
      exact q _ _ dk (Fr.refl _ _)
    | some i =>
      simp only [e] at q sm2 wfs
      dsimp only [look]
      obtain ⟨t0, u, g1, g2, b1, b2, er, eu, ek⟩ := texts_at wfd sm e
      have lr : (readD D i).length ≤ 800000 := by rw [er, List.length_append]; omega
      have hz : (mkS (readD D i)).length ≤ sizeLine := by rw [sizeLine_eq, len_tl]; show (readD D i).length ≤ _; omega
      have z1 : (kvM D.kept).length < sizeLine := by rw [kvM_len, sizeLine_eq]; have := sm.kept; omega
      have z2 : (kvM D.late).length < sizeLine := by rw [kvM_len, sizeLine_eq]; have := sm.late; omega
      (repeat array_get_dec)
      refine ⟨a, _, D, x, rfl, dk, ?_⟩
      rw [e]
      dsimp only [look]
      (repeat array_get_dec)
      refine ⟨m, (readD D i).length, by rw [len_tl]; rfl, ?_⟩
      (repeat array_get_dec)
      cases em : inIB (readD D i).length m with
      | none =>
        simp only [em] at q
        refine iteT' rfl ?_
        (repeat array_get_dec)
        exact q _ _ dk (Fr.refl _ _)
      | some j =>
        simp only [em] at q sm2 wfs
        refine iteF' rfl ?_
        obtain ⟨i0, rfl, h0, _⟩ : ∃ i0, m = .int i0 ∧ i0 = (j : Int) ∧ True := by
          cases m with
          | bl b => cases em
          | int i0 =>
            refine ⟨i0, rfl, ?_, trivial⟩
            have em' : (if 0 ≤ i0 ∧ i0 ≤ ((readD D i).length : Int) then some i0.toNat else none) = some j := em
            split at em'
            · rename_i w2
              have := Option.some.inj em'
              omega
            · cases em'
        subst h0
        (repeat array_get_dec)
        refine ⟨a, _, D, x, rfl, dk, ?_⟩
        rw [e]
        dsimp only [look]
        unfold vIB
        (repeat array_get_dec)
        rw [cut_pre]
        have ep : putK (kvM D.kept) (Sum.inl ((i : Nat) : Int)) (.str (mkS ((tl (mkS (readD D i))).take j))) = kvM (putA D.kept i ((readD D i).take j)) := kvM_put _ _ _
        have el : putK (kvM D.late) (Sum.inl ((i : Nat) : Int)) (.str (Str.ofString "")) = kvM (putA D.late i []) := kvM_put _ _ _
        rw [ep, el]
        refine q _ _ ⟨⟨k, l, n, sa, c, ts, rfl, ⟨nd0, ⟨dx, by ((repeat (first | with_reducible exact upd_same | with_reducible refine (upd_ne (by first | assumption | (apply Ne.symm; assumption))).trans ?_)); (try (first | assumption | exact upd_same)))⟩, by ((repeat (first | with_reducible exact upd_same | with_reducible refine (upd_ne (by first | assumption | (apply Ne.symm; assumption))).trans ?_)); (try (first | assumption | exact upd_same))), upd_same, by ((repeat (first | with_reducible exact upd_same | with_reducible refine (upd_ne (by first | assumption | (apply Ne.symm; assumption))).trans ?_)); (try (first | assumption | exact upd_same))), by ((repeat (first | with_reducible exact upd_same | with_reducible refine (upd_ne (by first | assumption | (apply Ne.symm; assumption))).trans ?_)); (try (first | assumption | exact upd_same))), by ((repeat (first | with_reducible exact upd_same | with_reducible refine (upd_ne (by first | assumption | (apply Ne.symm; assumption))).trans ?_)); (try (first | assumption | exact upd_same))), tp.keep fun v m o e => ?_, sm2⟩⟩, wfs⟩ (((Fr.refl _ H).put (by simp)).put (by simp))
        obtain ⟨ch', e'⟩ := tp.tup m
        rw [upd_ne fun z => (by rw [z, hl] at e'; cases e'), upd_ne fun z => (by rw [z, hk] at e'; cases e')]
        exact e
end
end K50

namespace K50
open PySem PySem.Spec PyProof.Rows L2
local macro_rules | `(tactic| array_mem_dec) => `(tactic| first | with_reducible assumption | with_reducible exact upd_same | ((with_reducible apply same_at); (with_reducible assumption); array_mem_dec) | ((with_reducible apply upd_atN); (with_reducible assumption); array_mem_dec) | ((with_reducible apply upd_at); (first | with_reducible assumption | (apply Ne.symm; with_reducible assumption)); array_mem_dec))
local macro_rules | `(tactic| array_get_dec) => `(tactic| first | (with_reducible refine w_seq ?_) | (with_reducible refine w_asg ?_) | (with_reducible refine w_drop ?_) | (with_reducible refine w_ret ?_) | (with_reducible refine w_retN ?_) | (with_reducible refine w_next ?_) | (with_reducible refine w_break ?_) | (with_reducible refine w_cont ?_) | (with_reducible refine w_ifS ?_) | (with_reducible refine w_sub ?_) | (with_reducible refine w_c ?_) | (with_reducible refine w_op ?_) | (with_reducible refine w_un ?_) | (with_reducible refine w_test ?_) | (with_reducible refine w_B ?_) | (with_reducible refine w_yes ?_) | (with_reducible refine w_not ?_) | (with_reducible refine w_and ?_) | (with_reducible refine w_or ?_) | (with_reducible refine w_andV ?_) | (with_reducible refine w_orV ?_) | (with_reducible refine w_notV ?_) | (with_reducible refine w_ifE ?_) | (with_reducible refine w_nil ?_) | (with_reducible refine w_cons ?_) | (with_reducible refine w_call ?_) | (with_reducible refine w_callS ?_) | (with_reducible refine w_cB ?_) | (with_reducible refine w_lst ?_) | (with_reducible refine w_tup ?_) | (with_reducible refine w_sl ?_) | (with_reducible refine w_noPart ?_) | (with_reducible refine w_part ?_) | (with_reducible refine w_bm ?_) | (with_reducible refine w_bm0 ?_) | (with_reducible refine w_strTy ?_) | (with_reducible refine w_bl ?_) | (with_reducible refine w_int1 ?_) | (with_reducible refine w_str1 ?_) | (with_reducible refine w_rI0 ?_) | (with_reducible refine w_rU ?_) | (with_reducible refine w_eqI ?_) | (with_reducible refine w_eqS ?_) | (with_reducible refine w_neI ?_) | (with_reducible refine w_neS ?_) | (with_reducible refine w_bl2 ?_) | (with_reducible refine w_isN ?_) | (with_reducible refine w_for ?_) | (with_reducible refine w_iRng1 ?_) | (with_reducible refine w_iRng2 ?_) | (with_reducible refine w_iList ?_) | (with_reducible refine w_iTup ?_) | (with_reducible refine w_iStr ?_) | (with_reducible refine w_lc ?_) | (with_reducible refine w_M1 ?_) | (with_reducible refine w_M0 ?_) | (with_reducible refine w_isS ?_) | ((with_reducible apply w_name); (simp only [wipe, List.map_cons, List.map_nil, List.foldl_cons, List.foldl_nil, List.set_cons_zero, List.set_cons_succ]; exact rfl)) | ((with_reducible apply w_var); exact rfl) | ((with_reducible apply w_lstTy); array_mem_dec) | ((with_reducible apply w_lenL); array_mem_dec) | ((with_reducible apply w_lenT); array_mem_dec) | ((with_reducible apply w_listOf); array_mem_dec) | ((with_reducible apply w_lenS); (first | (with_reducible assumption) | omega | (rw [sizeLine_eq]; omega))) | ((with_reducible apply w_slS); (first | (with_reducible assumption) | omega | (rw [sizeLine_eq]; omega))) | ((with_reducible apply w_wipe); exact rfl) | ((with_reducible apply w_acc); array_mem_dec; (try (first | (with_reducible assumption) | omega | (rw [sizeLine_eq]; omega)))) | ((with_reducible apply w_itl); array_mem_dec) | ((with_reducible apply w_itt); array_mem_dec) | ((with_reducible apply w_append); array_mem_dec; (try (first | (with_reducible assumption) | omega | (rw [sizeLine_eq]; omega)))) | ((with_reducible apply w_rng1); (first | (with_reducible assumption) | omega); (first | (with_reducible assumption) | omega)) | ((with_reducible apply w_ixL); array_mem_dec; (first | (with_reducible assumption) | exact rfl | (apply atI_nat; (with_reducible assumption)) | exact atI_last _ _)) | ((with_reducible apply w_ixT); array_mem_dec; (first | (with_reducible assumption) | exact rfl | (apply atI_nat; (with_reducible assumption)) | exact atI_last _ _)) | ((with_reducible apply w_iT); first | exact rfl | (with_reducible assumption)) | ((with_reducible apply w_iF); first | exact rfl | (with_reducible assumption)) | ((with_reducible apply w_isiI (b := true)); decide +kernel) | ((with_reducible apply w_isiI (b := false)); decide +kernel) | ((with_reducible apply w_isiB (b := true)); decide +kernel) | ((with_reducible apply w_isiB (b := false)); decide +kernel) | ((with_reducible apply w_isiS (b := true)); decide +kernel) | ((with_reducible apply w_isiS (b := false)); decide +kernel) | ((with_reducible apply w_isiN (b := true)); decide +kernel) | ((with_reducible apply w_isiN (b := false)); decide +kernel) | ((with_reducible apply w_isiL (b := true)); array_mem_dec; decide +kernel) | ((with_reducible apply w_isiL (b := false)); array_mem_dec; decide +kernel) | ((with_reducible apply w_isiT (b := true)); array_mem_dec; decide +kernel) | ((with_reducible apply w_isiT (b := false)); array_mem_dec; decide +kernel) | (with_reducible refine w_notT ?_) | (with_reducible refine w_chain ?_) | ((with_reducible apply w_trL); array_mem_dec) | ((with_reducible apply w_gTup); array_mem_dec; exact rfl) | ((with_reducible apply w_gLst); array_mem_dec; exact rfl) | (with_reducible refine w_gCons ?_) | (with_reducible refine w_gNil ?_) | (with_reducible refine w_Fld ?_) | (with_reducible refine w_sFld ?_) | (with_reducible refine w_dget ?_) | (with_reducible refine w_dIn ?_) | (with_reducible refine w_dNotIn ?_) | (with_reducible refine w_sDPut ?_) | (with_reducible refine w_dnewK ?_) | (with_reducible refine w_meth ?_) | (with_reducible refine w_make ?_) | (with_reducible refine w_methS ?_) | (with_reducible refine w_makeS ?_) | (with_reducible refine w_dpop ?_) | ((with_reducible apply w_fld1); array_mem_dec; (with_reducible assumption); (with_reducible assumption); exact rfl) | ((with_reducible apply w_sfld1); array_mem_dec; (with_reducible assumption); (with_reducible assumption); exact Nat.le_of_ble_eq_true rfl) | ((with_reducible apply w_meth1); array_mem_dec; exact rfl) | ((with_reducible apply w_dgetS); array_mem_dec; (with_reducible assumption)) | ((with_reducible apply w_dgetI); array_mem_dec; (with_reducible assumption)) | ((with_reducible apply w_dinS); array_mem_dec) | ((with_reducible apply w_dputI); array_mem_dec; (try (first | (with_reducible assumption) | omega | (rw [sizeLine_eq]; omega)))) | ((with_reducible apply w_dputS); array_mem_dec; (try (first | (with_reducible assumption) | omega | (rw [sizeLine_eq]; omega)))) | ((with_reducible apply w_isD); array_mem_dec) | ((with_reducible apply w_dictD); array_mem_dec) | ((with_reducible apply w_dpopS); array_mem_dec; (with_reducible assumption)) | ((with_reducible apply w_setL); array_mem_dec; exact rfl) | ((with_reducible apply w_cat); array_mem_dec; array_mem_dec; (try (first | (with_reducible assumption) | omega | (rw [sizeLine_eq]; omega)))) | (with_reducible refine w_iKeys ?_) | (with_reducible refine w_dget2 ?_) | (with_reducible refine w_scX ?_) | ((with_reducible apply w_keysF); array_mem_dec) | ((with_reducible apply w_dgetSF); array_mem_dec; (with_reducible assumption)))
section
variable {P : Program} {w : World} {K : PySem.W.Frag} {mg : Str → Option Value} {base : Heap}
theorem ok_Disk_sync_names (M : Nms K mg) : FnOk P w K mg base CX0 1 M.a_Disk_sync_names M.d_Disk_sync_names ["self"] (spSyncN M.CD M.CP M.CU) := by
  refine M.F_Disk_sync_names.ok sc_Disk_sync_names (fun vs H Q E h => ?_) (fun cdv A outer s H vs Q E hr h => ?_)
  · obtain ⟨a, fp, D, rfl, _⟩ := h
    rfl
  · have hu := hu1 hr
    have clD := M.clD
    have nD_kept := M.nD_kept
    have nD_late := M.nD_late
    have nD_names := M.nD_names
    have nD_sure := M.nD_sure
    have nD_changes := M.nD_changes
    have nD_next := M.nD_next
    refine ⟨_, (pss_cons (ps_fld (pv 0) (pe_callTy call_dictD (by rfl) M.T.b_dict (by decide +kernel) (pa_cons (pe_fld (pv 0) rfl) pa_nil)) rfl)
    (pss_one (ps_fld (pv 0) (pe_lst pa_nil) rfl))), ?_⟩
    try dsimp only [cxOf, Cx.nox]
    obtain ⟨a, fp, D, rfl, ⟨⟨k, l, n, sa, c, ts, rfl, ⟨nd, ⟨dx, hi⟩, hk, hl, hn, hs, hc, tp, sm⟩⟩, wfd⟩, sm2, q⟩ := h
    simp only [List.nodup_cons, List.mem_cons, List.not_mem_nil, or_false, not_or] at nd
    obtain ⟨⟨n1, n2, n3, n4, n5⟩, ⟨n6, n7, n8, n9⟩, ⟨n10, n11, n12⟩, ⟨n13, n14⟩, n15, _⟩ := nd
    refine w_start (σ' := [some (.ref a)]) rfl ?_
    (repeat array_get_dec)
    intro p hp
    have d1 := ne_of_none hi hp
    have d2 := ne_of_none hk hp
    have d3 := ne_of_none hl hp
    have d4 := ne_of_none hn hp
    (repeat array_get_dec)
    refine ⟨by show 0 ≤ sizeLine; decide, fun r hr2 => ?_⟩
    have nhr2 := hr2
    obtain ⟨_, nhr2⟩ := hu2 nhr2
    obtain ⟨_, nhr2⟩ := hu2 nhr2
    have c1 := ne_of_none hi nhr2
    have c2 := ne_of_none hk nhr2
    have c3 := ne_of_none hl nhr2
    have c4 := ne_of_none hn nhr2
    (repeat array_get_dec)
    refine q _ [a, k, l, n, p, r] ⟨⟨k, l, n, p, r, [], rfl, ⟨(by simp only [List.nodup_cons, List.mem_cons, List.not_mem_nil, or_false, not_or]; refine ⟨⟨?_, ?_, ?_, ?_, ?_⟩, ⟨?_, ?_, ?_, ?_⟩, ⟨?_, ?_, ?_⟩, ⟨?_, ?_⟩, ?_, not_false, List.nodup_nil⟩ <;> first | assumption | (apply Ne.symm; assumption)), ⟨dx, upd_same⟩, by ((repeat (first | with_reducible exact upd_same | with_reducible refine (upd_ne (by first | assumption | (apply Ne.symm; assumption))).trans ?_)); (try (first | assumption | exact upd_same))), by ((repeat (first | with_reducible exact upd_same | with_reducible refine (upd_ne (by first | assumption | (apply Ne.symm; assumption))).trans ?_)); (try (first | assumption | exact upd_same))), by ((repeat (first | with_reducible exact upd_same | with_reducible refine (upd_ne (by first | assumption | (apply Ne.symm; assumption))).trans ?_)); (try (first | assumption | exact upd_same))), by ((repeat (first | with_reducible exact upd_same | with_reducible refine (upd_ne (by first | assumption | (apply Ne.symm; assumption))).trans ?_)); (try (first | assumption | exact upd_same))), by ((repeat (first | with_reducible exact upd_same | with_reducible refine (upd_ne (by first | assumption | (apply Ne.symm; assumption))).trans ?_)); (try (first | assumption | exact upd_same))), trivial, sm2⟩⟩, wf_names wfd⟩ ⟨(((((Fr.refl _ H).neu hp).put (a := a) (by simp)).neu hr2).put (by simp)).1, fun b m => ?_⟩
    simp only [List.mem_cons, List.not_mem_nil, or_false] at m ⊢
    rcases m with rfl | rfl | rfl | rfl | rfl | rfl
    · exact .inl (by simp)
    · exact .inl (by simp)
    · exact .inl (by simp)
    · exact .inl (by simp)
    · exact .inr hp
    · exact .inr nhr2
theorem ok_Disk_move (M : Nms K mg) : FnOk P w K mg base (L2N.CX P w) 3 M.a_Disk_move M.d_Disk_move ["self", "one", "other"] (spMove M.CD M.CP M.CU) := by
  refine M.F_Disk_move.okN sc_Disk_move (fun vs H Q E h => ?_) (fun cdv A outer s H vs Q E hr h => ?_)
  · obtain ⟨a, x, y, fp, D, rfl, _⟩ := h
    rfl
  · have hu := hu1 hr
    have clD := M.clD
    have nD_kept := M.nD_kept
    have nD_late := M.nD_late
    have nD_names := M.nD_names
    have nD_sure := M.nD_sure
    have nD_changes := M.nD_changes
    have nD_next := M.nD_next
    refine ⟨_, (pss_cons (ps_expr (pe_methS1 (pv 0) M.clD M.m_Disk__file (ok_Disk__file M) (hr.mono (by decide)) M.b_Disk__file (fun σ => L2N.passAt (L2N.takes_of rfl rfl rfl rfl) σ) (pa_cons (pv 1) pa_nil)))
    (pss_cons (ps_if (PW.pt (pw_or (pt_cmpR op_eq (pv 1) (pv 2) (nomark _)) (pw_or (pt_not (pt_val (pe_callB call_isi (by rfl) M.T.b_isinstance (by decide +kernel) (pa_cons (pv 2) (pa_cons (pe_bltn (v := .ty "str") (u := .type "str") (by rfl) M.T.b_str (by decide +kernel) rfl) pa_nil))))) (pw_or1 (pt_cmpR op_eq (pv 2) pe_str (nomark _)))))) (pss_one (L2N.ps_raise rfl (L2N.takes_of rfl rfl rfl rfl) (L2N.pmk_own PySem.F.excBase_ValueError M.XP.xP M.XP.gP M.XP.kP (raises_own M.XP.bP M.XP.tP) rfl))) pss_nil)
    (pss_one (ps_expr (pe_meth (pv 0) M.clD M.m_Disk__change (ok_Disk__change M) (hr.mono (by decide)) M.b_Disk__change .nil pass0 (pa_cons (pe_tup (pa_cons pe_str (pa_cons (pv 1) (pa_cons (pv 2) pa_nil)))) pa_nil)))))), ?_⟩
    try dsimp only [cxOf, Cx.nox]
    obtain ⟨a, x, y, fp, D, rfl, dk, sm2, q⟩ := h
    have wfs := wf_step dk.2 (.move x y)
    have dk' := dk
    obtain ⟨⟨k, l, n, sa, c, ts, rfl, ⟨nd, ⟨dx, hi⟩, hk, hl, hn, hs, hc, tp, sm⟩⟩, wfd⟩ := dk'
    refine w_start (σ' := [some (.ref a), some (sv x), some (sv y)]) rfl ?_
    simp only [step] at q sm2 wfs
    (repeat array_get_dec)
    refine ⟨a, _, D, x, rfl, dk.1, ?_⟩
    cases e : getA D.names x with
    | none =>
      simp only [e] at q
      exact q _ _ dk (Fr.refl _ _)
    | some i =>
      simp only [e] at q sm2 wfs
      dsimp only [look]
      (repeat array_get_dec)
      refine ite2 (fun hx => ?_) (fun hx => ?_)
      · have hx' : x = y := mkS_inj' (V.str.inj (of_decide_eq_true hx))
        rw [if_pos (.inl hx')] at q
        (repeat array_get_dec)
        exact q _ _ dk (Fr.refl _ _)
      · have hx' : ¬ x = y := fun z => hx (decide_eq_true (by rw [z]))
        (repeat array_get_dec)
        refine ite2 (fun hy => ?_) (fun hy => ?_)
        · rw [if_pos (.inr (mk_nil.mp (of_decide_eq_true hy)))] at q
          (repeat array_get_dec)
          exact q _ _ dk (Fr.refl _ _)
        · rw [if_neg (fun z => z.elim hx' fun v => hy (decide_eq_true (mk_nil.mpr v)))] at q sm2 wfs
          (repeat array_get_dec)
          refine ⟨by show 3 ≤ sizeLine; decide, fun t ht => ?_⟩
          (repeat array_get_dec)
          refine ⟨a, t, _, D, .move x y, rfl, dk.1.same (same_upd (Same.refl _) ht), upd_same, by show (getA D.names x).isSome = true; rw [e]; rfl, sm2, fun H' fp' dk2 fr => ?_⟩
          (repeat array_get_dec)
          exact q _ _ ⟨dk2, wfs⟩ (((Fr.refl _ H).neu ht).trans fr)
theorem ok_Disk_remove (M : Nms K mg) : FnOk P w K mg base (L2N.CX P w) 3 M.a_Disk_remove M.d_Disk_remove ["self", "name"] (spRemove M.CD M.CP M.CU) := by
  refine M.F_Disk_remove.okN sc_Disk_remove (fun vs H Q E h => ?_) (fun cdv A outer s H vs Q E hr h => ?_)
  · obtain ⟨a, x, fp, D, rfl, _⟩ := h
    rfl
  · have hu := hu1 hr
    have clD := M.clD
    have nD_kept := M.nD_kept
    have nD_late := M.nD_late
    have nD_names := M.nD_names
    have nD_sure := M.nD_sure
    have nD_changes := M.nD_changes
    have nD_next := M.nD_next
    refine ⟨_, (pss_cons (ps_expr (pe_methS1 (pv 0) M.clD M.m_Disk__file (ok_Disk__file M) (hr.mono (by decide)) M.b_Disk__file (fun σ => L2N.passAt (L2N.takes_of rfl rfl rfl rfl) σ) (pa_cons (pv 1) pa_nil)))
    (pss_one (ps_expr (pe_meth (pv 0) M.clD M.m_Disk__change (ok_Disk__change M) (hr.mono (by decide)) M.b_Disk__change .nil pass0 (pa_cons (pe_tup (pa_cons pe_str (pa_cons (pv 1) (pa_cons pe_int pa_nil)))) pa_nil))))), ?_⟩
    try dsimp only [cxOf, Cx.nox]
    obtain ⟨a, x, fp, D, rfl, dk, sm2, q⟩ := h
    have wfs := wf_step dk.2 (.drop x)
    have dk' := dk
    obtain ⟨⟨k, l, n, sa, c, ts, rfl, ⟨nd, ⟨dx, hi⟩, hk, hl, hn, hs, hc, tp, sm⟩⟩, wfd⟩ := dk'
    refine w_start (σ' := [some (.ref a), some (sv x)]) rfl ?_
    simp only [step] at q sm2 wfs
    (repeat array_get_dec)
    refine ⟨a, _, D, x, rfl, dk.1, ?_⟩
    cases e : getA D.names x with
    | none =>
      simp only [e] at q
      exact q _ _ dk (Fr.refl _ _)
    | some i =>
      simp only [e] at q sm2 wfs
      dsimp only [look]
      (repeat array_get_dec)
      refine ⟨by show 3 ≤ sizeLine; decide, fun t ht => ?_⟩
      (repeat array_get_dec)
      refine ⟨a, t, _, D, .drop x, rfl, dk.1.same (same_upd (Same.refl _) ht), upd_same, by show (getA D.names x).isSome = true; rw [e]; rfl, sm2, fun H' fp' dk2 fr => ?_⟩
      (repeat array_get_dec)
      exact q _ _ ⟨dk2, wfs⟩ (((Fr.refl _ H).neu ht).trans fr)
theorem ok_Disk___init__ (M : Nms K mg) : FnOk P w K mg base CX0 1 M.a_Disk___init__ M.d_Disk___init__ ["self"] (spInit M.CD) := by
  refine M.F_Disk___init__.ok sc_Disk___init__ (fun vs H Q E h => ?_) (fun cdv A outer s H vs Q E hr h => ?_)
  · obtain ⟨a, dx, rfl, _⟩ := h
    rfl
  · have hu := hu1 hr
    have clD := M.clD
    have nD_kept := M.nD_kept
    have nD_late := M.nD_late
    have nD_names := M.nD_names
    have nD_sure := M.nD_sure
    have nD_changes := M.nD_changes
    have nD_next := M.nD_next
    refine ⟨_, (pss_cons (ps_fld (pv 0) pe_dnewK rfl)
    (pss_cons (ps_fld (pv 0) pe_dnewK rfl)
    (pss_cons (ps_fld (pv 0) pe_dnewK rfl)
    (pss_cons (ps_fld (pv 0) pe_dnewK rfl)
    (pss_cons (ps_fld (pv 0) (pe_lst pa_nil) rfl)
    (pss_one (ps_fld (pv 0) pe_int rfl))))))), ?_⟩
    try dsimp only [cxOf, Cx.nox]
    obtain ⟨a, dx, rfl, hi, q⟩ := h
    refine w_start (σ' := [some (.ref a)]) rfl ?_
    (repeat array_get_dec)
    intro k hk
    (repeat array_get_dec)
    intro l hl
    have nhl := hl
    obtain ⟨_, nhl⟩ := hu2 nhl
    obtain ⟨_, nhl⟩ := hu2 nhl
    (repeat array_get_dec)
    intro n hn
    have nhn := hn
    obtain ⟨_, nhn⟩ := hu2 nhn
    obtain ⟨_, nhn⟩ := hu2 nhn
    obtain ⟨_, nhn⟩ := hu2 nhn
    obtain ⟨_, nhn⟩ := hu2 nhn
    (repeat array_get_dec)
    intro sa hs
    have nhs := hs
    obtain ⟨_, nhs⟩ := hu2 nhs
    obtain ⟨_, nhs⟩ := hu2 nhs
    obtain ⟨_, nhs⟩ := hu2 nhs
    obtain ⟨_, nhs⟩ := hu2 nhs
    obtain ⟨_, nhs⟩ := hu2 nhs
    obtain ⟨_, nhs⟩ := hu2 nhs
    (repeat array_get_dec)
    refine ⟨by show 0 ≤ sizeLine; decide, fun c hc => ?_⟩
    have nhc := hc
    obtain ⟨_, nhc⟩ := hu2 nhc
    obtain ⟨_, nhc⟩ := hu2 nhc
    obtain ⟨_, nhc⟩ := hu2 nhc
    obtain ⟨_, nhc⟩ := hu2 nhc
    obtain ⟨_, nhc⟩ := hu2 nhc
    obtain ⟨_, nhc⟩ := hu2 nhc
    obtain ⟨_, nhc⟩ := hu2 nhc
    obtain ⟨_, nhc⟩ := hu2 nhc
    have d1 := ne_of_none hi hk
    have d2 := ne_of_none hi nhl
    have d3 := ne_of_none hi nhn
    have d4 := ne_of_none hi nhs
    have d5 := ne_of_none hi nhc
    (repeat array_get_dec)
    refine q _ [a, k, l, n, sa, c] ⟨⟨k, l, n, sa, c, [], rfl, ⟨(by simp only [List.nodup_cons, List.mem_cons, List.not_mem_nil, or_false, not_or]; refine ⟨⟨?_, ?_, ?_, ?_, ?_⟩, ⟨?_, ?_, ?_, ?_⟩, ⟨?_, ?_, ?_⟩, ⟨?_, ?_⟩, ?_, not_false, List.nodup_nil⟩ <;> first | assumption | (apply Ne.symm; assumption)), ⟨dx, upd_same⟩, by ((repeat (first | with_reducible exact upd_same | with_reducible refine (upd_ne (by first | assumption | (apply Ne.symm; assumption))).trans ?_)); (try (first | assumption | exact upd_same))), by ((repeat (first | with_reducible exact upd_same | with_reducible refine (upd_ne (by first | assumption | (apply Ne.symm; assumption))).trans ?_)); (try (first | assumption | exact upd_same))), by ((repeat (first | with_reducible exact upd_same | with_reducible refine (upd_ne (by first | assumption | (apply Ne.symm; assumption))).trans ?_)); (try (first | assumption | exact upd_same))), by ((repeat (first | with_reducible exact upd_same | with_reducible refine (upd_ne (by first | assumption | (apply Ne.symm; assumption))).trans ?_)); (try (first | assumption | exact upd_same))), by ((repeat (first | with_reducible exact upd_same | with_reducible refine (upd_ne (by first | assumption | (apply Ne.symm; assumption))).trans ?_)); (try (first | assumption | exact upd_same))), trivial, bd_none⟩⟩, wf_none⟩ ⟨(Fr.refl [a] H |>.neu hk |>.put (a := a) (by simp) |>.neu hl |>.put (a := a) (by simp) |>.neu hn |>.put (a := a) (by simp) |>.neu hs |>.put (a := a) (by simp) |>.neu hc |>.put (a := a) (by simp) |>.put (by simp)).1, fun b m => ?_⟩
    simp only [List.mem_cons, List.not_mem_nil, or_false] at m ⊢
    rcases m with rfl | rfl | rfl | rfl | rfl | rfl
    · exact .inl rfl
    · exact .inr hk
    · exact .inr nhl
    · exact .inr nhn
    · exact .inr nhs
    · exact .inr nhc
theorem ok_Disk_copy (M : Nms K mg) : FnOk P w K mg base CX0 3 M.a_Disk_copy M.d_Disk_copy ["self"] (spCopy M.CD) := by
  refine M.F_Disk_copy.ok sc_Disk_copy (fun vs H Q E h => ?_) (fun cdv A outer s H vs Q E hr h => ?_)
  · obtain ⟨a, fp, D, rfl, _⟩ := h
    rfl
  · have hu := hu1 hr
    have clD := M.clD
    have nD_kept := M.nD_kept
    have nD_late := M.nD_late
    have nD_names := M.nD_names
    have nD_sure := M.nD_sure
    have nD_changes := M.nD_changes
    have nD_next := M.nD_next
    refine ⟨_, (pss_cons (ps_set (i := 1) sc_Disk_copy.nd rfl (Or.inl rfl) (pe_make0 M.mkD (ok_Disk___init__ M) (hr.mono (by decide)) rfl M.gD M.b_Disk___init__ .nil pass0))
    (pss_cons (ps_fld (pv 1) (pe_callTy call_dictD (by rfl) M.T.b_dict (by decide +kernel) (pa_cons (pe_fld (pv 0) rfl) pa_nil)) rfl)
    (pss_cons (ps_fld (pv 1) (pe_callTy call_dictD (by rfl) M.T.b_dict (by decide +kernel) (pa_cons (pe_fld (pv 0) rfl) pa_nil)) rfl)
    (pss_cons (ps_fld (pv 1) (pe_callTy call_dictD (by rfl) M.T.b_dict (by decide +kernel) (pa_cons (pe_fld (pv 0) rfl) pa_nil)) rfl)
    (pss_cons (ps_fld (pv 1) (pe_callTy call_dictD (by rfl) M.T.b_dict (by decide +kernel) (pa_cons (pe_fld (pv 0) rfl) pa_nil)) rfl)
    (pss_cons (ps_fld (pv 1) (pe_callTy call_list_of (by rfl) M.T.b_list (by decide +kernel) (pa_cons (pe_fld (pv 0) rfl) pa_nil)) rfl)
    (pss_cons (ps_fld (pv 1) (pe_fld (pv 0) rfl) rfl)
    (pss_one (ps_ret (pv 1)))))))))), ?_⟩
    try dsimp only [cxOf, Cx.nox]
    obtain ⟨a, fp, D, rfl, ⟨⟨k, l, n, sa, c, ts, rfl, ⟨nd, ⟨dx, hi⟩, hk, hl, hn, hs, hc, tp, sm⟩⟩, wfd⟩, q⟩ := h
    refine w_start (σ' := [some (.ref a), none]) rfl ?_
    (repeat array_get_dec)
    intro b db hb hdb hne
    refine ⟨b, db, rfl, upd_same, fun H1 fp1 dk1 fr1 => ⟨rfl, ?_⟩⟩
    have s1 : Same H H1 := fun x o e => fr1.keep (by rw [upd_ne (ne_of_none e hb), upd_ne (ne_of_none e hdb)]; exact e) (by simp; exact ne_of_none e hb)
    obtain ⟨⟨k0, l0, n0, sa0, c0, ts0, rfl, ⟨nd1, ⟨dx1, gi⟩, _⟩⟩, _⟩ := dk1
    have q1 := (ne_of_none hi hb).symm
    have q2 := (ne_of_none hk hb).symm
    have q3 := (ne_of_none hl hb).symm
    have q4 := (ne_of_none hn hb).symm
    have q5 := (ne_of_none hs hb).symm
    have q6 := (ne_of_none hc hb).symm
    have frees : ∀ x, H1 x = none → H x = none := fun x e => by
      cases e2 : H x with
      | none => rfl
      | some o => rw [s1 _ _ e2] at e; cases e
    replace hi := s1 _ _ hi
    replace hk := s1 _ _ hk
    replace hl := s1 _ _ hl
    replace hn := s1 _ _ hn
    replace hs := s1 _ _ hs
    replace hc := s1 _ _ hc
    (repeat array_get_dec)
    intro k2 hk2
    have e1 := ne_of_none gi hk2
    (repeat array_get_dec)
    intro l2 hl2
    have nhl2 := hl2
    obtain ⟨_, nhl2⟩ := hu2 nhl2
    obtain ⟨_, nhl2⟩ := hu2 nhl2
    (repeat array_get_dec)
    intro n2 hn2
    have nhn2 := hn2
    obtain ⟨_, nhn2⟩ := hu2 nhn2
    obtain ⟨_, nhn2⟩ := hu2 nhn2
    obtain ⟨_, nhn2⟩ := hu2 nhn2
    obtain ⟨_, nhn2⟩ := hu2 nhn2
    (repeat array_get_dec)
    intro s2 hs2
    have nhs2 := hs2
    obtain ⟨_, nhs2⟩ := hu2 nhs2
    obtain ⟨_, nhs2⟩ := hu2 nhs2
    obtain ⟨_, nhs2⟩ := hu2 nhs2
    obtain ⟨_, nhs2⟩ := hu2 nhs2
    obtain ⟨_, nhs2⟩ := hu2 nhs2
    obtain ⟨_, nhs2⟩ := hu2 nhs2
    (repeat array_get_dec)
    intro c2 hc2
    have nhc2 := hc2
    obtain ⟨_, nhc2⟩ := hu2 nhc2
    obtain ⟨_, nhc2⟩ := hu2 nhc2
    obtain ⟨_, nhc2⟩ := hu2 nhc2
    obtain ⟨_, nhc2⟩ := hu2 nhc2
    obtain ⟨_, nhc2⟩ := hu2 nhc2
    obtain ⟨_, nhc2⟩ := hu2 nhc2
    obtain ⟨_, nhc2⟩ := hu2 nhc2
    obtain ⟨_, nhc2⟩ := hu2 nhc2
    have d1 := ne_of_none gi nhl2
    have d2 := ne_of_none gi nhn2
    have d3 := ne_of_none gi nhs2
    have d4 := ne_of_none gi nhc2
    (repeat array_get_dec)
    refine q b _ [b, k2, l2, n2, s2, c2] ⟨⟨k2, l2, n2, s2, c2, ts, rfl, ⟨(by simp only [List.nodup_cons, List.mem_cons, List.not_mem_nil, or_false, not_or]; refine ⟨⟨?_, ?_, ?_, ?_, ?_⟩, ⟨?_, ?_, ?_, ?_⟩, ⟨?_, ?_, ?_⟩, ⟨?_, ?_⟩, ?_, not_false, List.nodup_nil⟩ <;> first | assumption | (apply Ne.symm; assumption)), ⟨dx1, upd_same⟩, by ((repeat (first | with_reducible exact upd_same | with_reducible refine (upd_ne (by first | assumption | (apply Ne.symm; assumption))).trans ?_)); (try (first | assumption | exact upd_same))), by ((repeat (first | with_reducible exact upd_same | with_reducible refine (upd_ne (by first | assumption | (apply Ne.symm; assumption))).trans ?_)); (try (first | assumption | exact upd_same))), by ((repeat (first | with_reducible exact upd_same | with_reducible refine (upd_ne (by first | assumption | (apply Ne.symm; assumption))).trans ?_)); (try (first | assumption | exact upd_same))), by ((repeat (first | with_reducible exact upd_same | with_reducible refine (upd_ne (by first | assumption | (apply Ne.symm; assumption))).trans ?_)); (try (first | assumption | exact upd_same))), by ((repeat (first | with_reducible exact upd_same | with_reducible refine (upd_ne (by first | assumption | (apply Ne.symm; assumption))).trans ?_)); (try (first | assumption | exact upd_same))), tp.keep fun x m o e => ?_, sm⟩⟩, wfd⟩ (fun x o e => ?_) fun x m => ?_
    · exact (Fr.refl [b] H1 |>.neu hk2 |>.put (a := b) (by simp) |>.neu hl2 |>.put (a := b) (by simp) |>.neu hn2 |>.put (a := b) (by simp) |>.neu hs2 |>.put (a := b) (by simp) |>.neu hc2 |>.put (a := b) (by simp) |>.put (a := b) (by simp)).1 x o (s1 x o e) (by simp; exact ne_of_none e hb)
    · exact (Fr.refl [b] H1 |>.neu hk2 |>.put (a := b) (by simp) |>.neu hl2 |>.put (a := b) (by simp) |>.neu hn2 |>.put (a := b) (by simp) |>.neu hs2 |>.put (a := b) (by simp) |>.neu hc2 |>.put (a := b) (by simp) |>.put (a := b) (by simp)).1 x o (s1 x o e) (by simp; exact ne_of_none e hb)
    simp only [List.mem_cons, List.not_mem_nil, or_false] at m
    rcases m with rfl | rfl | rfl | rfl | rfl | rfl
    · exact hb
    · exact frees _ hk2
    · exact frees _ nhl2
    · exact frees _ nhn2
    · exact frees _ nhs2
    · exact frees _ nhc2
theorem ok_Disk_late_files (M : Nms K mg) : FnOk P w K mg base CX0 3 M.a_Disk_late_files M.d_Disk_late_files ["self"] (fun vs H Q _ => ∃ a fp D, vs = [.ref a] ∧ DiskAt M.CD H a fp D ∧ ∀ p H', Same H H' → H p = none → H' p = some (.lst (((srt (D.names.map (·.1))).filter fun x => decide (lateD D ((getA D.names x).getD 0) ≠ [])).map sv)) → Q (.ref p) H') := by
  refine M.F_Disk_late_files.ok sc_Disk_late_files (fun vs H Q E h => ?_) (fun cdv A outer s H vs Q E hr h => ?_)
  · obtain ⟨a, fp, D, rfl, _⟩ := h
    rfl
  · have hu := hu1 hr
    have clD := M.clD
    have nD_kept := M.nD_kept
    have nD_late := M.nD_late
    have nD_names := M.nD_names
    have nD_sure := M.nD_sure
    have nD_changes := M.nD_changes
    have nD_next := M.nD_next
    refine ⟨_, (pss_one (ps_ret (pe_lc (own := [("name", 1)]) rfl sc_Disk_late_files.nd (pi_list (pe_meth0 (pv 0) M.clD M.m_Disk_names (ok_Disk_names M) (hr.mono (by decide)) M.b_Disk_names .nil pass0)) (blkOk_by (N := ["self", "name"]) (sc := defScope s_Disk_late_files) (own := [("name", 1)]) (by decide +kernel)) (fun _ _ _ _ _ => (pg_name (i := 1) sc_Disk_late_files.nd rfl (Or.inl rfl))) (fun _ _ _ _ _ => pts_one (pt_cmpR op_gt (pe_meth (pv 0) M.clD M.m_Disk_late_size (okL_Disk_late_size M) (hr.mono (by decide)) M.b_Disk_late_size .nil pass0 (pa_cons (pv 1) pa_nil)) pe_int (nomark _))) (fun _ _ _ _ _ => (pv 1))))), ?_⟩
    try dsimp only [cxOf, Cx.nox]
    obtain ⟨a, fp, D, rfl, dk, q⟩ := h
    obtain ⟨⟨k0, l0, n0, sa0, c0, ts0, efp, ⟨_, ⟨dx0, hi⟩, _, _, _, _, _, _, sm⟩⟩, wfd⟩ := id dk
    refine w_start (σ' := [some (.ref a), none]) rfl ?_
    (repeat array_get_dec)
    refine ⟨a, fp, D, rfl, dk.1, fun r hr2 => ?_⟩
    (repeat array_get_dec)
    intro A2 hA2
    have sA : Same H (upd H r (.lst ((srt (D.names.map (·.1))).map sv))) := same_upd (Same.refl _) hr2
    have hrA : A2 ≠ r := fun z => by rw [z, upd_same] at hA2; cases hA2
    have hA0 : H A2 = none := by rw [upd_ne hrA] at hA2; exact hA2
    refine lc_list (K := K) (a := r) (xs := (srt (D.names.map (·.1))).map sv) (fun i H' => H' A2 = some (.lst ((((srt (D.names.map (·.1))).take i).filter fun x => decide (lateD D ((getA D.names x).getD 0) ≠ [])).map sv)) ∧ ∀ b o, b ≠ A2 → upd H r (.lst ((srt (D.names.map (·.1))).map sv)) b = some o → H' b = some o) ⟨upd_same, fun b o nb e => by rw [upd_ne nb]; exact e⟩ ?_ ?_ ?_
    · rintro i H' hi ⟨h1, h2⟩
      exact SqL.of (h2 _ _ (Ne.symm hrA) upd_same)
    · rintro i v H' hv ⟨h1, h2⟩
      obtain ⟨x, hx, rfl⟩ : ∃ x, (srt (D.names.map (·.1)))[i]? = some x ∧ v = sv x := by
        rw [List.getElem?_map] at hv
        cases e : (srt (D.names.map (·.1)))[i]? with
        | none => rw [e] at hv; cases hv
        | some t => rw [e] at hv; exact ⟨t, rfl, (Option.some.inj hv).symm⟩
      have mx : x ∈ D.names.map (·.1) := (srt_perm _).mem_iff.mp (List.mem_of_getElem? hx)
      obtain ⟨j, hj⟩ := Option.isSome_iff_exists.mp (getA_has.mpr mx)
      have dk2 : DiskAt M.CD H' a fp D := dk.keep fun b o e m => h2 b o (fun z => by rw [z, hA0] at e; cases e) (sA _ _ e)
      have hi2 := h2 _ _ (fun z => by rw [z, hA0] at hi; cases hi) (sA _ _ hi)
      (repeat array_get_dec)
      refine ⟨a, fp, D, x, j, rfl, dk2, hj, ?_⟩
      (repeat array_get_dec)
      have ll : (srt (D.names.map (·.1))).length < 64 := by rw [(srt_perm _).length_eq, List.length_map]; exact sm.names
      have lz : ((((srt (D.names.map (·.1))).take i).filter fun x => decide (lateD D ((getA D.names x).getD 0) ≠ [])).map sv).length < sizeLine := by
        rw [List.length_map]
        have := List.length_filter_le (fun x => decide (lateD D ((getA D.names x).getD 0) ≠ [])) ((srt (D.names.map (·.1))).take i)
        rw [List.length_take] at this
        rw [sizeLine_eq]; omega
      have ft : ∀ b, decide (lateD D ((getA D.names x).getD 0) ≠ []) = b → ((srt (D.names.map (·.1))).take (i + 1)).filter (fun x => decide (lateD D ((getA D.names x).getD 0) ≠ [])) = ((srt (D.names.map (·.1))).take i).filter (fun x => decide (lateD D ((getA D.names x).getD 0) ≠ [])) ++ (if b = true then [x] else []) := fun b hb => by
        rw [take_one hx, List.filter_append, List.filter_cons, hb]
        rfl
      have eg : lateD D ((getA D.names x).getD 0) = lateD D j := by rw [hj]; rfl
      refine ite2 (fun hb => ?_) (fun hb => ?_)
      · have hb' : lateD D j ≠ [] := fun z => by rw [z] at hb; exact absurd (of_decide_eq_true hb) (by decide)
        (repeat array_get_dec)
        refine ⟨by rw [upd_same, ft true (decide_eq_true (by rw [eg]; exact hb')), List.map_append]; rfl, fun b o nb e => by rw [upd_ne nb]; exact h2 b o nb e⟩
      · have hb' : lateD D j = [] := by
          have : ¬ (0 : Int) < (((lateD D j).length : Nat) : Int) := fun z => hb (decide_eq_true z)
          exact List.eq_nil_of_length_eq_zero (by omega)
        refine ⟨by rw [h1, ft false (decide_eq_false (by rw [eg]; exact fun z => z hb')), if_neg (by simp), List.append_nil], h2⟩
    · rintro H' ⟨h1, h2⟩
      rw [List.length_map, List.take_length] at h1
      (repeat array_get_dec)
      exact q _ _ (fun b o e => h2 b o (fun z => by rw [z, hA0] at e; cases e) (sA _ _ e)) hA0 h1
end
end K50

namespace K50
open PySem PySem.Spec PyProof.Rows L2
/-! ### walks over the keys of a dict -/
section
variable {σ : L2.St} {H : Hp}
theorem w_iKeys {td : TE} {R : L2.It → Hp → Prop} (h : td σ H fun x H1 => ∃ d o, x = .ref d ∧ ((∃ kvs, H1 d = some (.frz o (.dK kvs)) ∧ R (Itk d o kvs) H1) ∨ ∃ kvs, H1 d = some (.frz o (.dT kvs)) ∧ R (Itkt d o kvs) H1)) : iKeys td σ H R := h
theorem w_keysF {d : Addr} {o : Obj} {kvs : List (Key × V)} {R : Addr → Obj → List (Key × V) → Prop} {R2 : Addr → Obj → List (List Key × V) → Prop} (h : H d = some (.frz o (.dK kvs))) (k : R d o kvs) : ∃ d' o', V.ref d = .ref d' ∧ ((∃ kvs, H d' = some (.frz o' (.dK kvs)) ∧ R d' o' kvs) ∨ ∃ kvs, H d' = some (.frz o' (.dT kvs)) ∧ R2 d' o' kvs) := ⟨d, o, rfl, .inl ⟨kvs, h, k⟩⟩
theorem w_dgetSF {a : Addr} {od : Obj} {kvs : List (Key × V)} {x : Str} {v : V} {R : V → Prop} (h : H a = some (.frz od (.dK kvs))) (e : valV kvs (Sum.inr x : Key) = some v) (k : R v) : ∃ a' v', V.ref a = .ref a' ∧ DGet H a' (.str x) (some v') ∧ R v' := ⟨a, v, rfl, e ▸ .inl ⟨kvs, Sum.inr x, .inr ⟨od, h⟩, rfl, rfl⟩, k⟩
theorem w_scX {w : World} {wi : TI} {g : TG} {tt : TT} {te : TE} {vs : List Nat} {Q : VK} (h : wi σ H fun J H1 => ∀ D, H1 D = none → ∃ W : Nat → Nat → Hp → Prop, (∃ n, W 0 n (upd H1 D (TxtSet.SetXO w D (fun _ => false) 0))) ∧ ∀ i n G, W i n G →
    (J.stop i G ∧ Q (.ref D) G) ∨ (J.go i G ∧ ∃ Nx : Hp → Prop, (∀ G', Nx G' → ∃ n', n' < n ∧ W (i + 1) n' G') ∧ ∀ v G', J.yld i G v G' → g v (wipe σ vs) G' fun τ G2 => wipe τ vs = wipe σ vs ∧ tt τ G2 fun b G3 =>
      if b = true then te τ G3 fun y G4 => ∃ (x : Str) (S : Str → Bool) (m : Nat), y = .str x ∧ G4 D = some (TxtSet.SetXO w D S m) ∧ m + 1 < scanBound ∧ Nx (upd G4 D (TxtSet.SetXO w D (TxtSet.grow S x) (TxtSet.grown S m x))) else Nx G3)) : TxtSet.tScX w wi g tt te vs σ H Q := h
theorem for_keys {d : Addr} {od : Obj} {kvs : List (Key × V)} {g : TG} {tb : TS} {D : Ends} (Pv : Nat → L2.St → Hp → Prop) (h0 : Pv 0 σ H) (hl : ∀ i σ H, i ≤ kvs.length → Pv i σ H → H d = some (.frz od (.dK kvs)))
    (hs : ∀ i k v σ H, kvs[i]? = some (k, v) → Pv i σ H → g (kV k) σ H fun σ2 H2 => tb { D with nx := Pv (i + 1), ct := Pv (i + 1), bk := D.nx } σ2 H2) (hd : ∀ σ H, Pv kvs.length σ H → D.nx σ H) :
    ∃ W : Nat → Nat → L2.St → Hp → Prop, (∃ m, W 0 m σ H) ∧ ∀ i m σ H, W i m σ H →
      ((Itk d od kvs).stop i H ∧ D.nx σ H) ∨ ((Itk d od kvs).go i H ∧ ∃ N : L2.St → Hp → Prop, (∀ σ' H', N σ' H' → ∃ m', m' < m ∧ W (i + 1) m' σ' H') ∧ ∀ x H', (Itk d od kvs).yld i H x H' → g x σ H' fun σ2 H2 => tb { D with nx := N, ct := N, bk := D.nx } σ2 H2) := by
  refine ⟨fun i m σ H => m = kvs.length - i ∧ i ≤ kvs.length ∧ Pv i σ H, ⟨kvs.length, by simp, Nat.zero_le _, h0⟩, ?_⟩
  rintro i m σ H ⟨rfl, hi, p⟩
  have q := hl i σ H hi p
  by_cases hlt : i < kvs.length
  · refine .inr ⟨⟨q, hlt⟩, Pv (i + 1), fun σ' H' p' => ⟨kvs.length - (i + 1), by omega, rfl, hlt, p'⟩, fun x H' y => ?_⟩
    obtain ⟨e, k, v, y, z⟩ := y
    subst e z
    exact hs i k v σ _ y p
  · have e : i = kvs.length := by omega
    subst e
    exact .inl ⟨⟨q, Nat.le_refl _⟩, hd σ H p⟩
theorem lc_keys {d : Addr} {od : Obj} {kvs : List (Key × V)} {g : TG} {tt : TT} {te : TE} {vs : List Nat} {H1 : Hp} {D : Addr} {Qd : Hp → Prop} (Pv : Nat → Hp → Prop) (h0 : Pv 0 (upd H1 D (.lst []))) (hl : ∀ i H, i ≤ kvs.length → Pv i H → H d = some (.frz od (.dK kvs)))
    (hs : ∀ i k v H, kvs[i]? = some (k, v) → Pv i H → g (kV k) (wipe σ vs) H fun σ2 H2 => wipe σ2 vs = wipe σ vs ∧ tt σ2 H2 fun b H3 =>
      if b = true then te σ2 H3 fun y H4 => ∃ acc, H4 D = some (.lst acc) ∧ acc.length < sizeLine ∧ Pv (i + 1) (upd H4 D (.lst (acc ++ [y]))) else Pv (i + 1) H3) (hd : ∀ H, Pv kvs.length H → Qd H) :
    ∃ W : Nat → Nat → Hp → Prop, (∃ m, W 0 m (upd H1 D (.lst []))) ∧ ∀ i m H, W i m H →
      ((Itk d od kvs).stop i H ∧ Qd H) ∨ ((Itk d od kvs).go i H ∧ ∃ Nx : Hp → Prop, (∀ H', Nx H' → ∃ m', m' < m ∧ W (i + 1) m' H') ∧ ∀ x H', (Itk d od kvs).yld i H x H' → g x (wipe σ vs) H' fun σ2 H2 => wipe σ2 vs = wipe σ vs ∧ tt σ2 H2 fun b H3 =>
        if b = true then te σ2 H3 fun y H4 => ∃ acc, H4 D = some (.lst acc) ∧ acc.length < sizeLine ∧ Nx (upd H4 D (.lst (acc ++ [y]))) else Nx H3) := by
  refine ⟨fun i m H => m = kvs.length - i ∧ i ≤ kvs.length ∧ Pv i H, ⟨kvs.length, by simp, Nat.zero_le _, h0⟩, ?_⟩
  rintro i m H ⟨rfl, hi, p⟩
  have q := hl i H hi p
  by_cases hlt : i < kvs.length
  · refine .inr ⟨⟨q, hlt⟩, Pv (i + 1), fun H' p' => ⟨kvs.length - (i + 1), by omega, rfl, hlt, p'⟩, fun x H' y => ?_⟩
    obtain ⟨e, k, v, y, z⟩ := y
    subst e z
    exact hs i k v _ y p
  · have e : i = kvs.length := by omega
    subst e
    exact .inl ⟨⟨q, Nat.le_refl _⟩, hd H p⟩
end
theorem w_dget2 {td ty tx : TE} {σ : L2.St} {H : Hp} {Q : VK} (h : td σ H fun x H1 => ∃ a, x = .ref a ∧ IsD H1 a ∧ ty σ H1 fun y H2 => tx σ H2 fun z H3 => ∃ o, DGet H3 a y o ∧ Q (o.getD z) H3) : tDGet2 td ty tx σ H Q := h
theorem w_setL {H : Hp} {p : Addr} {xs : List V} {k : Int} {j : Nat} {v : V} {R : Hp → Prop} (h : H p = some (.lst xs)) (e : ixN xs.length k = some j) (q : R (upd H p (.lst (xs.set j v)))) : rSetL (.ref p) (.int k) v H R := ⟨p, xs, k, j, rfl, rfl, h, e, q⟩
theorem w_cat {H : Hp} {l b : Addr} {xs zs : List V} {Q : VK} (h1 : H l = some (.lst xs)) (h2 : H b = some (.lst zs)) (hz : xs.length + zs.length ≤ sizeLine) (k : ∀ p, H p = none → Q (.ref p) (upd H p (.lst (xs ++ zs)))) : rCat (.ref l) (.ref b) H Q := ⟨l, b, xs, zs, rfl, rfl, h1, h2, hz, k⟩
/-! ### lists of texts compared -/
theorem strOkT {x : Tx} (h : ∀ c ∈ x, c < 1114112) : PyData.strOk (mkS x) = true := by
  unfold PyData.strOk
  rw [Array.all_eq_true_iff_forall_mem]
  intro c m
  exact decide_eq_true (h c (by simpa [mkS] using m))
def dS (l : List Tx) : List PyData := l.map fun t => .str (mkS t)
theorem dS_lay : ∀ {l : List Tx}, (∀ x ∈ l, ∀ c ∈ x, c < 1114112) → PyData.canLayAll0 (dS l) = true
  | [], _ => by simp [dS, PyData.canLayAll0]
  | x :: r, h => by
    show (PyData.canLay0 (.str (mkS x)) && PyData.canLayAll0 (dS r)) = true
    rw [Bool.and_eq_true]
    exact ⟨by show PyData.strOk (mkS x) = true; exact strOkT (h x List.mem_cons_self), dS_lay fun y m => h y (List.mem_cons_of_mem _ m)⟩
theorem dS_depth : ∀ (l : List Tx), PyData.depthAll (dS l) ≤ 1
  | [] => by simp [dS, PyData.depthAll]
  | x :: r => by
    have := dS_depth r
    show PyData.depthAll (.str (mkS x) :: dS r) ≤ 1
    simp [PyData.depthAll, PyData.depth]
    omega
theorem dS_shaped {l : List Tx} (h : ∀ x ∈ l, ∀ c ∈ x, c < 1114112) : SeqAt.shaped (.list (dS l)) = true := by
  unfold SeqAt.shaped
  rw [Bool.and_eq_true]
  refine ⟨by simp only [PyData.canLay0]; exact dS_lay h, decide_eq_true ?_⟩
  have := dS_depth l
  simp [PyData.depth]
  omega
theorem dS_all {K : PySem.W.Frag} {H : Hp} : ∀ l : List Tx, DpAll K H (l.map sv) (dS l)
  | [] => .nil
  | x :: r => .cons (.str _) (dS_all r)
theorem dS_eqv : ∀ (l m : List Tx), PyData.eqvAll (dS l) (dS m) = decide (l = m)
  | [], [] => by simp [dS, PyData.eqvAll]
  | [], _ :: _ => by simp [dS, PyData.eqvAll]
  | _ :: _, [] => by simp [dS, PyData.eqvAll]
  | x :: r, y :: s => by
    have ih := dS_eqv r s
    show PyData.eqvAll (.str (mkS x) :: dS r) (.str (mkS y) :: dS s) = _
    rw [PyData.eqvAll, ih]
    simp only [PyData.eqv]
    rw [Bool.eq_iff_iff, Bool.and_eq_true, beq_iff_eq, decide_eq_true_eq, decide_eq_true_eq]
    exact ⟨fun ⟨a, b⟩ => by rw [mkS_inj' a, b], fun z => by cases z; exact ⟨rfl, rfl⟩⟩
theorem w_neT {K : PySem.W.Frag} {H : Hp} {a b : Addr} {l m : List Tx} {Q : VK} (ha : H a = some (.lst (l.map sv))) (hb : H b = some (.lst (m.map sv))) (hl : ∀ x ∈ l, ∀ c ∈ x, c < 1114112) (hm : ∀ x ∈ m, ∀ c ∈ x, c < 1114112) (k : Q (.bl (!decide (l = m))) H) : rNeD K (.ref a) (.ref b) H Q :=
  ⟨.list (dS l), .list (dS m), .lst (SqL.of ha) (dS_all l), .lst (SqL.of hb) (dS_all m), dS_shaped hl, dS_shaped hm, by
    have : PyData.eqv (.list (dS l)) (.list (dS m)) = decide (l = m) := by simp only [PyData.eqv]; exact dS_eqv l m
    rw [this]; exact k⟩
theorem w_eqT {K : PySem.W.Frag} {H : Hp} {a b : Addr} {l m : List Tx} {Q : VK} (ha : H a = some (.lst (l.map sv))) (hb : H b = some (.lst (m.map sv))) (hl : ∀ x ∈ l, ∀ c ∈ x, c < 1114112) (hm : ∀ x ∈ m, ∀ c ∈ x, c < 1114112) (k : Q (.bl (decide (l = m))) H) : rEqD K (.ref a) (.ref b) H Q :=
  ⟨.list (dS l), .list (dS m), .lst (SqL.of ha) (dS_all l), .lst (SqL.of hb) (dS_all m), dS_shaped hl, dS_shaped hm, by
    have : PyData.eqv (.list (dS l)) (.list (dS m)) = decide (l = m) := by simp only [PyData.eqv]; exact dS_eqv l m
    rw [this]; exact k⟩
/-! ### a set of texts, sorted -/
theorem srt_set {names : List Tx} {xs : List Str} (up : sortedS xs = true) (nd : xs.Nodup) (mem : ∀ x, x ∈ xs ↔ x ∈ names.map mkS) : ∃ ys : List Tx, xs = ys.map mkS ∧ (∀ y ∈ ys, y ∈ names) ∧ (names = ys ↔ names.Nodup ∧ names.Pairwise fun a b => a ≤ b) := by
  have e : xs = (xs.map tl).map mkS := by
    rw [List.map_map]
    exact (List.map_id' xs).symm.trans (List.map_congr_left fun x _ => TL.ext_tl rfl)
  have pw : (xs.map tl).Pairwise fun a b => a ≤ b := List.pairwise_map.mpr (sortedS_pair _ up)
  have nd2 : (xs.map tl).Nodup := by
    rw [e] at nd
    exact (List.pairwise_map.mp nd).imp fun h z => h (by rw [z])
  have mm : ∀ y, y ∈ xs.map tl ↔ y ∈ names := fun y => by
    constructor
    · intro h
      have : mkS y ∈ xs := by rw [e]; exact List.mem_map_of_mem h
      obtain ⟨z, hz, ez⟩ := List.mem_map.mp ((mem _).mp this)
      rw [← mkS_inj' ez]; exact hz
    · intro h
      have := (mem (mkS y)).mpr (List.mem_map_of_mem h)
      rw [e] at this
      obtain ⟨z, hz, ez⟩ := List.mem_map.mp this
      rw [← mkS_inj' ez]; exact hz
  refine ⟨xs.map tl, e, fun y h => (mm y).mp h, fun z => ?_, fun z => ?_⟩
  · rw [z]; exact ⟨nd2, pw⟩
  · have p : names.Perm (xs.map tl) := (List.perm_ext_iff_of_nodup z.1 nd2).mpr fun y => (mm y).symm
    exact List.Perm.eq_of_pairwise (fun a b _ _ h1 h2 => List.le_antisymm h1 h2) z.2 pw p
theorem cutV_pre {α : Type} {f : α → V} {l : List α} {k : Nat} : cutV (l.map f) none (some (k : Int)) = (l.take k).map f := by
  unfold cutV
  rw [HT.sIx_none, HT.sIx_nat, List.length_map, List.drop_zero, Nat.sub_zero, List.map_take]
  by_cases h : k ≤ l.length
  · rw [Nat.min_eq_left h]
  · have e1 : min k l.length = l.length := Nat.min_eq_right (by omega)
    rw [e1, List.take_of_length_le (by rw [List.length_map]; exact Nat.le_refl _), List.take_of_length_le (by rw [List.length_map]; omega)]
theorem cut_last (x : Str) : cutS x none (some (-1)) = mkS ((tl x).dropLast) := by
  have hn : x.length = (tl x).length := len_tl x
  have e : cutS x none (some (-1)) = cutS x none (some ((x.length - 1 : Nat) : Int)) := by
    have e1 : HT.sIx x.length x.length (some (-1)) = HT.sIx x.length x.length (some ((x.length - 1 : Nat) : Int)) := by
      rw [HT.sIx_nat]
      show (if (-1 : Int) < 0 then ((-1 : Int) + (x.length : Int)).toNat else min (-1 : Int).toNat x.length) = min (x.length - 1) x.length
      rw [if_pos (by decide)]
      omega
    unfold cutS
    rw [e1]
  rw [e, cut_pre, hn, ← List.dropLast_eq_take]
end K50

namespace K50
open PySem PySem.Spec PyProof.Rows L2
local macro_rules | `(tactic| array_mem_dec) => `(tactic| first | with_reducible assumption | with_reducible exact upd_same | ((with_reducible apply same_at); (with_reducible assumption); array_mem_dec) | ((with_reducible apply upd_atN); (with_reducible assumption); array_mem_dec) | ((with_reducible apply upd_at); (first | with_reducible assumption | (apply Ne.symm; with_reducible assumption)); array_mem_dec))
local macro_rules | `(tactic| array_get_dec) => `(tactic| first | (with_reducible refine w_seq ?_) | (with_reducible refine w_asg ?_) | (with_reducible refine w_drop ?_) | (with_reducible refine w_ret ?_) | (with_reducible refine w_retN ?_) | (with_reducible refine w_next ?_) | (with_reducible refine w_break ?_) | (with_reducible refine w_cont ?_) | (with_reducible refine w_ifS ?_) | (with_reducible refine w_sub ?_) | (with_reducible refine w_c ?_) | (with_reducible refine w_op ?_) | (with_reducible refine w_un ?_) | (with_reducible refine w_test ?_) | (with_reducible refine w_B ?_) | (with_reducible refine w_yes ?_) | (with_reducible refine w_not ?_) | (with_reducible refine w_and ?_) | (with_reducible refine w_or ?_) | (with_reducible refine w_andV ?_) | (with_reducible refine w_orV ?_) | (with_reducible refine w_notV ?_) | (with_reducible refine w_ifE ?_) | (with_reducible refine w_nil ?_) | (with_reducible refine w_cons ?_) | (with_reducible refine w_call ?_) | (with_reducible refine w_callS ?_) | (with_reducible refine w_cB ?_) | (with_reducible refine w_lst ?_) | (with_reducible refine w_tup ?_) | (with_reducible refine w_sl ?_) | (with_reducible refine w_noPart ?_) | (with_reducible refine w_part ?_) | (with_reducible refine w_bm ?_) | (with_reducible refine w_bm0 ?_) | (with_reducible refine w_strTy ?_) | (with_reducible refine w_bl ?_) | (with_reducible refine w_int1 ?_) | (with_reducible refine w_str1 ?_) | (with_reducible refine w_rI0 ?_) | (with_reducible refine w_rU ?_) | (with_reducible refine w_eqI ?_) | (with_reducible refine w_eqS ?_) | (with_reducible refine w_neI ?_) | (with_reducible refine w_neS ?_) | (with_reducible refine w_bl2 ?_) | (with_reducible refine w_isN ?_) | (with_reducible refine w_for ?_) | (with_reducible refine w_iRng1 ?_) | (with_reducible refine w_iRng2 ?_) | (with_reducible refine w_iList ?_) | (with_reducible refine w_iTup ?_) | (with_reducible refine w_iStr ?_) | (with_reducible refine w_lc ?_) | (with_reducible refine w_M1 ?_) | (with_reducible refine w_M0 ?_) | (with_reducible refine w_isS ?_) | ((with_reducible apply w_name); (simp only [wipe, List.map_cons, List.map_nil, List.foldl_cons, List.foldl_nil, List.set_cons_zero, List.set_cons_succ]; exact rfl)) | ((with_reducible apply w_var); exact rfl) | ((with_reducible apply w_lstTy); array_mem_dec) | ((with_reducible apply w_lenL); array_mem_dec) | ((with_reducible apply w_lenT); array_mem_dec) | ((with_reducible apply w_listOf); array_mem_dec) | ((with_reducible apply w_lenS); (first | (with_reducible assumption) | omega | (rw [sizeLine_eq]; omega))) | ((with_reducible apply w_slS); (first | (with_reducible assumption) | omega | (rw [sizeLine_eq]; omega))) | ((with_reducible apply w_wipe); exact rfl) | ((with_reducible apply w_acc); array_mem_dec; (try (first | (with_reducible assumption) | omega | (rw [sizeLine_eq]; omega)))) | ((with_reducible apply w_itl); array_mem_dec) | ((with_reducible apply w_itt); array_mem_dec) | ((with_reducible apply w_append); array_mem_dec; (try (first | (with_reducible assumption) | omega | (rw [sizeLine_eq]; omega)))) | ((with_reducible apply w_rng1); (first | (with_reducible assumption) | omega); (first | (with_reducible assumption) | omega)) | ((with_reducible apply w_ixL); array_mem_dec; (first | (with_reducible assumption) | exact rfl | (apply atI_nat; (with_reducible assumption)) | exact atI_last _ _)) | ((with_reducible apply w_ixT); array_mem_dec; (first | (with_reducible assumption) | exact rfl | (apply atI_nat; (with_reducible assumption)) | exact atI_last _ _)) | ((with_reducible apply w_iT); first | exact rfl | (with_reducible assumption)) | ((with_reducible apply w_iF); first | exact rfl | (with_reducible assumption)) | ((with_reducible apply w_isiI (b := true)); decide +kernel) | ((with_reducible apply w_isiI (b := false)); decide +kernel) | ((with_reducible apply w_isiB (b := true)); decide +kernel) | ((with_reducible apply w_isiB (b := false)); decide +kernel) | ((with_reducible apply w_isiS (b := true)); decide +kernel) | ((with_reducible apply w_isiS (b := false)); decide +kernel) | ((with_reducible apply w_isiN (b := true)); decide +kernel) | ((with_reducible apply w_isiN (b := false)); decide +kernel) | ((with_reducible apply w_isiL (b := true)); array_mem_dec; decide +kernel) | ((with_reducible apply w_isiL (b := false)); array_mem_dec; decide +kernel) | ((with_reducible apply w_isiT (b := true)); array_mem_dec; decide +kernel) | ((with_reducible apply w_isiT (b := false)); array_mem_dec; decide +kernel) | (with_reducible refine w_notT ?_) | (with_reducible refine w_chain ?_) | ((with_reducible apply w_trL); array_mem_dec) | ((with_reducible apply w_gTup); array_mem_dec; exact rfl) | ((with_reducible apply w_gLst); array_mem_dec; exact rfl) | (with_reducible refine w_gCons ?_) | (with_reducible refine w_gNil ?_) | (with_reducible refine w_Fld ?_) | (with_reducible refine w_sFld ?_) | (with_reducible refine w_dget ?_) | (with_reducible refine w_dIn ?_) | (with_reducible refine w_dNotIn ?_) | (with_reducible refine w_sDPut ?_) | (with_reducible refine w_dnewK ?_) | (with_reducible refine w_meth ?_) | (with_reducible refine w_make ?_) | (with_reducible refine w_methS ?_) | (with_reducible refine w_makeS ?_) | (with_reducible refine w_dpop ?_) | ((with_reducible apply w_fld1); array_mem_dec; (with_reducible assumption); (with_reducible assumption); exact rfl) | ((with_reducible apply w_sfld1); array_mem_dec; (with_reducible assumption); (with_reducible assumption); exact Nat.le_of_ble_eq_true rfl) | ((with_reducible apply w_meth1); array_mem_dec; exact rfl) | ((with_reducible apply w_dgetS); array_mem_dec; (with_reducible assumption)) | ((with_reducible apply w_dgetI); array_mem_dec; (with_reducible assumption)) | ((with_reducible apply w_dinS); array_mem_dec) | ((with_reducible apply w_dputI); array_mem_dec; (try (first | (with_reducible assumption) | omega | (rw [sizeLine_eq]; omega)))) | ((with_reducible apply w_dputS); array_mem_dec; (try (first | (with_reducible assumption) | omega | (rw [sizeLine_eq]; omega)))) | ((with_reducible apply w_isD); array_mem_dec) | ((with_reducible apply w_dictD); array_mem_dec) | ((with_reducible apply w_dpopS); array_mem_dec; (with_reducible assumption)) | ((with_reducible apply w_setL); array_mem_dec; exact rfl) | ((with_reducible apply w_cat); array_mem_dec; array_mem_dec; (try (first | (with_reducible assumption) | omega | (rw [sizeLine_eq]; omega)))) | (with_reducible refine w_iKeys ?_) | (with_reducible refine w_dget2 ?_) | (with_reducible refine w_scX ?_) | ((with_reducible apply w_keysF); array_mem_dec) | ((with_reducible apply w_dgetSF); array_mem_dec; (with_reducible assumption)))
/-! ### tears -/
inductive Tear
  | three (x : Tx) (s : Int) (v : IB)
  | two (a b : Int)
def tupT : Tear → List V
  | .three x s v => [sv x, .int s, vIB v]
  | .two a b => [.int a, .int b]
def TeAt (H : Hp) : List Addr → List Tear → Prop
  | [], [] => True
  | t :: ts, c :: cs => H t = some (.tup (tupT c)) ∧ TeAt H ts cs
  | _, _ => False
theorem TeAt.keep {H H' : Hp} : ∀ {ts : List Addr} {cs : List Tear}, TeAt H ts cs → (∀ t xs, H t = some (.tup xs) → H' t = some (.tup xs)) → TeAt H' ts cs
  | [], [], _, _ => trivial
  | t :: ts, c :: cs, h, k => ⟨k t _ h.1, TeAt.keep h.2 k⟩
  | [], _ :: _, h, _ => h.elim
  | _ :: _, [], h, _ => h.elim
theorem TeAt.len {H : Hp} : ∀ {ts : List Addr} {cs : List Tear}, TeAt H ts cs → ts.length = cs.length
  | [], [], _ => rfl
  | t :: ts, c :: cs, h => by rw [List.length_cons, List.length_cons, TeAt.len h.2]
  | [], _ :: _, h => h.elim
  | _ :: _, [], h => h.elim
theorem TeAt.get {H : Hp} : ∀ {ts : List Addr} {cs : List Tear} (i : Nat) {t : Addr}, TeAt H ts cs → ts[i]? = some t → ∃ c, cs[i]? = some c ∧ H t = some (.tup (tupT c))
  | [], [], _, _, _, e => by simp at e
  | u :: ts, d :: cs, 0, t, h, e => by
    simp at e
    subst e
    exact ⟨d, rfl, h.1⟩
  | u :: ts, d :: cs, i + 1, t, h, e => by
    obtain ⟨c, a, b⟩ := TeAt.get i h.2 (t := t) (by simpa using e)
    exact ⟨c, by simpa using a, b⟩
  | [], _ :: _, _, _, h, _ => h.elim
  | _ :: _, [], _, _, h, _ => h.elim
theorem TeAt.snoc {H : Hp} {t : Addr} {c : Tear} : ∀ {ts : List Addr} {cs : List Tear}, TeAt H ts cs → H t = some (.tup (tupT c)) → TeAt H (ts ++ [t]) (cs ++ [c])
  | [], [], _, e => ⟨e, trivial⟩
  | u :: ts, d :: cs, h, e => ⟨h.1, TeAt.snoc h.2 e⟩
  | [], _ :: _, h, _ => h.elim
  | _ :: _, [], h, _ => h.elim
def isTwo : Tear → Bool
  | .two _ _ => true
  | _ => false
def nameT : Tear → Tx
  | .three x _ _ => x
  | _ => []
def okTear (D : DS) : Tear → Prop
  | .three x s v => (∃ i, getA D.names x = some i ∧ (inIB (lateD D i).length (.int s)).isSome = true) ∧ ∃ b, v = .bl b ∧ ¬ (b = true ∧ s = 0)
  | .two _ _ => False
def okNms (l : List Tx) : Prop := l.Nodup ∧ l.Pairwise fun a b => a ≤ b
def okTears (D : DS) (c : IB) (trs : List Tear) : Prop := (inIB D.ch.length c).isSome = true ∧ (∀ t ∈ trs, isTwo t = false) ∧ okNms (trs.map nameT) ∧ ∀ t ∈ trs, okTear D t
def spChkT (CD CP : Addr) : Sp := fun vs H Q E => ∃ (a : Addr) (fp : List Addr) (D : DS) (ch : IB) (c : Addr) (ts : List Addr) (trs : List Tear), vs = [.ref a, vIB ch, .ref c] ∧ DiskAt CD H a fp D ∧ H c = some (.lst (ts.map V.ref)) ∧ TeAt H ts trs ∧ trs.length < 64 ∧ c ∉ fp ∧
  (∀ t ∈ trs, ∀ k ∈ nameT t, k < 1114112) ∧
  (okTears D ch trs → ∀ p H', Same H H' → H p = none → H' p = some (.lst (ts.map V.ref)) → Q (.ref p) H') ∧ (¬ okTears D ch trs → ∀ H', Same H H' → E (.ref CP) none H')
theorem upd_atS {H H' : Hp} {A : Addr} (hA : H A = none) (k : ∀ b o, b ≠ A → H b = some o → H' b = some o) : Same H H' := fun b o e => k b o (fun z => by rw [z, hA] at e; cases e) e
theorem getE_map {α : Type} {f : α → V} {l : List α} {i : Nat} {v : V} (h : (l.map f)[i]? = some v) : ∃ t, l[i]? = some t ∧ v = f t := by
  rw [List.getElem?_map] at h
  cases e : l[i]? with
  | none => rw [e] at h; cases h
  | some t => rw [e] at h; exact ⟨t, rfl, (Option.some.inj h).symm⟩
section
variable {P : Program} {w : World} {K : PySem.W.Frag} {mg : Str → Option Value} {base : Heap}
theorem ok_checked_tears (M : Nms K mg) : FnOk P w K mg base (L2N.CX P w) 3 M.a_checked_tears M.d_checked_tears ["disk", "changes", "tears"] (spChkT M.CD M.CP) := by
  refine M.F_checked_tears.okN sc_checked_tears (fun vs H Q E h => ?_) (fun cdv A outer s H vs Q E hr h => ?_)
  · obtain ⟨a, fp, D, ch, c, ts, trs, rfl, _⟩ := h
    rfl
  · have hu := hu1 hr
    have clD := M.clD
    have nD_kept := M.nD_kept
    have nD_late := M.nD_late
    have nD_names := M.nD_names
    have nD_sure := M.nD_sure
    have nD_changes := M.nD_changes
    have nD_next := M.nD_next
    refine ⟨_, (pss_cons (ps_if (pt_not (pt_val (pe_call (ok_is_number M) (hr.mono (by decide)) rfl M.g_is_number M.k_is_number M.b_is_number .nil pass0 (pa_cons (pv 1) (pa_cons pe_int (pa_cons (pe_meth0 (pv 0) M.clD M.m_Disk_late_changes (ok_Disk_late_changes M) (hr.mono (by decide)) M.b_Disk_late_changes .nil pass0) pa_nil)))))) (pss_one (L2N.ps_raise rfl (L2N.takes_of rfl rfl rfl rfl) (L2N.pmk_own PySem.F.excBase_ValueError M.XP.xP M.XP.gP M.XP.kP (raises_own M.XP.bP M.XP.tP) rfl))) pss_nil)
    (pss_cons (ps_if (PW.pt (pw_or (pt_truth (pe_lc (own := [("row", 3)]) rfl sc_checked_tears.nd (pi_list (pv 2)) (blkOk_by (N := ["disk", "changes", "tears", "row", "name", "signs", "spoilt"]) (sc := defScope s_checked_tears) (own := [("row", 3)]) (by decide +kernel)) (fun _ _ _ _ _ => (pg_name (i := 3) sc_checked_tears.nd rfl (Or.inl rfl))) (fun _ _ _ _ _ => pts_one (pt_cmpR op_ne (pe_callB (id := "len") (r := fun xs H Q => ∃ x n, xs = [x] ∧ LenV K x H n ∧ Q (V.int ((n : Nat) : Int)) H) call_len (by rfl) M.T.b_len (by decide +kernel) (pa_cons (pv 3) pa_nil)) pe_int (nomark _))) (fun _ _ _ _ _ => (pv 3))) (by intro _; rfl)) (pw_or1 (pt_cmpR (r := rNeD K) (op_neD hr.units) (pe_lc (own := [("row", 3)]) rfl sc_checked_tears.nd (pi_list (pv 2)) (blkOk_by (N := ["disk", "changes", "tears", "row", "name", "signs", "spoilt"]) (sc := defScope s_checked_tears) (own := [("row", 3)]) (by decide +kernel)) (fun _ _ _ _ _ => (pg_name (i := 3) sc_checked_tears.nd rfl (Or.inl rfl))) (fun _ _ _ _ _ => pts_nil) (fun _ _ _ _ _ => (pe_ix (r := rIxT K) ix_tup (pv 3) pe_int (fun _ _ => rfl)))) (pe_callB (TxtSet.cr_sortedX rfl) (by rfl) M.T.b_sorted (by decide +kernel) (pa_cons (TxtSet.pe_scX (own := [("row", 3)]) rfl sc_checked_tears.nd (pi_list (pv 2)) (blkOk_by (N := ["disk", "changes", "tears", "row", "name", "signs", "spoilt"]) (sc := defScope s_checked_tears) (own := [("row", 3)]) (by decide +kernel)) (fun _ _ _ _ _ => (pg_name (i := 3) sc_checked_tears.nd rfl (Or.inl rfl))) (fun _ _ _ _ _ => pts_nil) (fun _ _ _ _ _ => (pe_ix (r := rIxT K) ix_tup (pv 3) pe_int (fun _ _ => rfl)))) pa_nil)) (nomark _))))) (pss_one (L2N.ps_raise rfl (L2N.takes_of rfl rfl rfl rfl) (L2N.pmk_own PySem.F.excBase_ValueError M.XP.xP M.XP.gP M.XP.kP (raises_own M.XP.bP M.XP.tP) rfl))) pss_nil)
    (pss_cons (ps_for (passes_of rfl) rfl (pi_list (pv 2)) (pg_tup rfl (pgs_cons (pg_name (i := 4) sc_checked_tears.nd rfl (Or.inl rfl)) (pgs_cons (pg_name (i := 5) sc_checked_tears.nd rfl (Or.inl rfl)) (pgs_cons (pg_name (i := 6) sc_checked_tears.nd rfl (Or.inl rfl)) pgs_nil)))) (pss_cons (ps_if (PW.pt (pw_or (pt_not (pt_val (pe_meth (pv 0) M.clD M.m_Disk_has (ok_Disk_has M) (hr.mono (by decide)) M.b_Disk_has .nil pass0 (pa_cons (pv 4) pa_nil)))) (pw_or1 (pt_not (pt_val (pe_call (ok_is_number M) (hr.mono (by decide)) rfl M.g_is_number M.k_is_number M.b_is_number .nil pass0 (pa_cons (pv 5) (pa_cons pe_int (pa_cons (pe_methS1 (pv 0) M.clD M.m_Disk_late_size (ok_Disk_late_size M) (hr.mono (by decide)) M.b_Disk_late_size (fun σ => L2N.passAt (L2N.takes_of rfl rfl rfl rfl) σ) (pa_cons (pv 4) pa_nil)) pa_nil))))))))) (pss_one (L2N.ps_raise rfl (L2N.takes_of rfl rfl rfl rfl) (L2N.pmk_own PySem.F.excBase_ValueError M.XP.xP M.XP.gP M.XP.kP (raises_own M.XP.bP M.XP.tP) rfl))) pss_nil)
    (pss_one (ps_if (PW.pt (pw_or (pt_not (pt_val (pe_callB call_isi (by rfl) M.T.b_isinstance (by decide +kernel) (pa_cons (pv 6) (pa_cons (pe_bltn (v := .ty "bool") (u := .type "bool") (by rfl) M.T.b_bool (by decide +kernel) rfl) pa_nil))))) (pw_or1 (PW.pt (pw_and (pt_val (pv 6)) (pw_and1 (pt_cmpR op_eq (pv 5) pe_int (nomark _)))))))) (pss_one (L2N.ps_raise rfl (L2N.takes_of rfl rfl rfl rfl) (L2N.pmk_own PySem.F.excBase_ValueError M.XP.xP M.XP.gP M.XP.kP (raises_own M.XP.bP M.XP.tP) rfl))) pss_nil))))
    (pss_one (ps_ret (pe_callTy call_list_of (by rfl) M.T.b_list (by decide +kernel) (pa_cons (pv 2) pa_nil))))))), ?_⟩
    try dsimp only [cxOf, Cx.nox]
    obtain ⟨a, fp, D, ch, c, ts, trs, rfl, dk, hc, te, h60, ncf, na, q, ke⟩ := h
    obtain ⟨⟨k0, l0, n0, sa0, c0, ts0, efp, ⟨_, ⟨dx0, hi⟩, _, _, _, _, _, _, sm⟩⟩, wfd⟩ := id dk
    refine w_start (σ' := [some (.ref a), some (vIB ch), some (.ref c), none, none, none, none]) rfl ?_
    have tl := te.len
    (repeat array_get_dec)
    refine ⟨a, fp, D, rfl, dk.1, ?_⟩
    (repeat array_get_dec)
    refine ⟨ch, D.ch.length, rfl, ?_⟩
    (repeat array_get_dec)
    cases hch : (inIB D.ch.length ch).isSome with
    | false =>
      refine iteT' rfl ?_
      (repeat array_get_dec)
      exact ke (fun z => by rw [z.1] at hch; cases hch) _ (Same.refl _)
    | true =>
      refine iteF' rfl ?_
      (repeat array_get_dec)
      intro A1 hA1
      refine lc_list (K := K) (a := c) (xs := ts.map V.ref) (fun i H' => H' A1 = some (.lst (((ts.zip trs).take i |>.filter fun p => isTwo p.2).map fun p => V.ref p.1)) ∧ ∀ b o, b ≠ A1 → H b = some o → H' b = some o) ⟨by rw [upd_same]; rfl, fun b o nb e => by rw [upd_ne nb]; exact e⟩ ?_ ?_ ?_
      · rintro i H' hi ⟨h1, h2⟩
        exact SqL.of (h2 _ _ (ne_of_none hc hA1) hc)
      · rintro i v H' hv ⟨h1, h2⟩
        obtain ⟨t, ht, rfl⟩ := getE_map hv
        obtain ⟨tr, htr, htt⟩ := te.get i ht
        have htt' := h2 _ _ (ne_of_none htt hA1) htt
        have ez : (ts.zip trs)[i]? = some (t, tr) := by rw [List.getElem?_zip_eq_some]; exact ⟨ht, htr⟩
        have tk : (ts.zip trs).take (i + 1) = (ts.zip trs).take i ++ [(t, tr)] := take_one ez
        have lz : ((((ts.zip trs).take i).filter fun p => isTwo p.2).map fun p => V.ref p.1).length < sizeLine := by
          rw [List.length_map]
          have := List.length_filter_le (fun p : Addr × Tear => isTwo p.2) ((ts.zip trs).take i)
          rw [List.length_take, List.length_zip] at this
          rw [sizeLine_eq]; omega
        cases tr with
        | three x s2 v2 =>
          unfold tupT at htt'
          (repeat array_get_dec)
          refine ⟨by rw [tk, List.filter_append, h1]; simp [isTwo], h2⟩
        | two x y =>
          unfold tupT at htt'
          (repeat array_get_dec)
          refine ⟨by rw [upd_same, tk, List.filter_append, List.map_append]; rfl, fun b o nb e => by rw [upd_ne nb]; exact h2 b o nb e⟩
      · rintro H1 ⟨h1, h2⟩
        have s1 := upd_atS hA1 h2
        have zf : (ts.zip trs).take (ts.map V.ref).length = ts.zip trs := List.take_of_length_le (by rw [List.length_zip, List.length_map]; omega)
        rw [zf] at h1
        refine ⟨_, .inl ⟨_, SqL.of h1, rfl⟩, ?_⟩
        by_cases two : ∀ t ∈ trs, isTwo t = false
        · have ez : (((ts.zip trs).filter fun p => isTwo p.2).map fun p => V.ref p.1) = [] := by
            rw [List.map_eq_nil_iff, List.filter_eq_nil_iff]
            rintro ⟨t, tr⟩ m
            have := two tr (List.of_mem_zip m).2
            simp [this]
          rw [ez]
          refine iteF' rfl ?_
          have th : ∀ (i : Nat) (t : Addr), ts[i]? = some t → ∃ x s2 v2, trs[i]? = some (.three x s2 v2) ∧ H t = some (.tup [sv x, .int s2, vIB v2]) := fun i t ht => by
            obtain ⟨tr, htr, htt⟩ := te.get i ht
            cases tr with
            | three x s2 v2 => exact ⟨x, s2, v2, htr, htt⟩
            | two x y => have := two _ (List.mem_of_getElem? htr); cases this
          have hc1 := s1 _ _ hc
          (repeat array_get_dec)
          intro A2 hA2
          refine lc_list (K := K) (a := c) (xs := ts.map V.ref) (fun i H' => H' A2 = some (.lst (((trs.take i).map nameT).map sv)) ∧ ∀ b o, b ≠ A2 → H1 b = some o → H' b = some o) ⟨by rw [upd_same]; rfl, fun b o nb e => by rw [upd_ne nb]; exact e⟩ ?_ ?_ ?_
          · rintro i H' hi ⟨h3, h4⟩
            exact SqL.of (h4 _ _ (ne_of_none hc1 hA2) hc1)
          · rintro i v H' hv ⟨h3, h4⟩
            obtain ⟨t, ht, rfl⟩ := getE_map hv
            obtain ⟨x, s2, v2, htr, htt⟩ := th i t ht
            have htt' := h4 _ _ (ne_of_none (s1 _ _ htt) hA2) (s1 _ _ htt)
            have lz : (((trs.take i).map nameT).map sv).length < sizeLine := by
              rw [List.length_map, List.length_map, List.length_take, sizeLine_eq]; omega
            (repeat array_get_dec)
            refine ⟨by rw [upd_same, take_one htr, List.map_append, List.map_append]; rfl, fun b o nb e => by rw [upd_ne nb]; exact h4 b o nb e⟩
          · rintro H2 ⟨h3, h4⟩
            have s2 := upd_atS hA2 h4
            have hc2 := s2 _ _ hc1
            have ln : (ts.map V.ref).length = trs.length := by rw [List.length_map, tl]
            rw [ln, List.take_length] at h3
            (repeat array_get_dec)
            intro A3 hA3
            refine TxtSet.scX_list (K := K) (a := c) (xs := ts.map V.ref) (fun i H' => (∃ S m, H' A3 = some (TxtSet.SetXO w A3 S m) ∧ (∀ x, S x = true ↔ x ∈ ((trs.take i).map nameT).map mkS) ∧ m ≤ i) ∧ ∀ b o, b ≠ A3 → H2 b = some o → H' b = some o) ⟨⟨_, _, upd_same, fun x => ⟨fun z => (by cases z), fun z => (by simp at z)⟩, Nat.le_refl _⟩, fun b o nb e => by rw [upd_ne nb]; exact e⟩ ?_ ?_ ?_
            · rintro i H' hi ⟨h5, h6⟩
              exact SqL.of (h6 _ _ (ne_of_none hc2 hA3) hc2)
            · rintro i v H' hv ⟨⟨S, m, h5, h5a, h5b⟩, h6⟩
              obtain ⟨t, ht, rfl⟩ := getE_map hv
              obtain ⟨x, s3, v3, htr, htt⟩ := th i t ht
              have htt' := h6 _ _ (ne_of_none (s2 _ _ (s1 _ _ htt)) hA3) (s2 _ _ (s1 _ _ htt))
              have li : i < trs.length := (List.getElem?_eq_some_iff.mp htr).1
              (repeat array_get_dec)
              refine ⟨mkS x, S, m, rfl, h5, by unfold scanBound; omega, ⟨_, _, upd_same, fun y => ?_, ?_⟩, fun b o nb e => by rw [upd_ne nb]; exact h6 b o nb e⟩
              · unfold TxtSet.grow
                rw [take_one htr, List.map_append, List.map_append, List.mem_append, Bool.or_eq_true, h5a y]
                simp [nameT]
              · unfold TxtSet.grown
                split <;> omega
            · rintro H3 ⟨⟨S, m, h5, h5a, h5b⟩, h6⟩
              rw [ln, List.take_length] at h5a
              have s3 := upd_atS hA3 h6
              (repeat array_get_dec)
              refine ⟨A3, S, m, rfl, h5, by omega, fun xs r up nd mem len hr2 => ?_⟩
              obtain ⟨ys, rfl, yn, yeq⟩ := srt_set (names := trs.map nameT) up nd fun x => (mem x).trans (h5a x)
              have e3 : H3 A2 = some (.lst ((trs.map nameT).map sv)) := s3 _ _ h3
              have nmOk : ∀ x ∈ trs.map nameT, ∀ c ∈ x, c < 1114112 := fun x m => by
                obtain ⟨t, mt, rfl⟩ := List.mem_map.mp m
                exact na t mt
              refine w_neT (l := trs.map nameT) (m := ys) (upd_atN hr2 e3) (by rw [upd_same, List.map_map]; rfl) nmOk (fun x m => nmOk x (yn x m)) ?_
              have s4 : Same H (upd H3 r (.lst ((ys.map mkS).map V.str))) := fun b o e => upd_atN hr2 (s3 _ _ (s2 _ _ (s1 _ _ e)))
              have hc4 := s4 _ _ hc
              have dk4 := dk.same s4
              have hi4 := s4 _ _ hi
              generalize upd H3 r (.lst ((ys.map mkS).map V.str)) = H4 at *
              (repeat array_get_dec)
              by_cases en : trs.map nameT = ys
              · have okn := yeq.mp en
                rw [decide_eq_true en]
                refine iteF' rfl ?_
                (repeat array_get_dec)
                refine for_list (K := K) (a := c) (xs := ts.map V.ref) (fun i σ H' => ∃ v4 v5 v6, σ = [some (.ref a), some (vIB ch), some (.ref c), none, v4, v5, v6] ∧ H' = H4 ∧ ∀ t ∈ trs.take i, okTear D t) ⟨_, _, _, rfl, rfl, fun t m => by simp at m⟩ ?_ ?_ ?_
                · rintro i σ H' hi ⟨v4, v5, v6, rfl, rfl, _⟩
                  exact SqL.of hc4
                · rintro i v σ H' hv ⟨v4, v5, v6, rfl, rfl, okl⟩
                  obtain ⟨t, ht, rfl⟩ := getE_map hv
                  obtain ⟨x, s5, v7, htr, htt⟩ := th i t ht
                  have htt' := s4 _ _ htt
                  have bad : ¬ okTear D (.three x s5 v7) → E (.ref M.CP) none H' := fun z => ke (fun y => z (y.2.2.2 _ (List.mem_of_getElem? htr))) _ s4
                  have good : okTear D (.three x s5 v7) → ∀ t ∈ trs.take (i + 1), okTear D t := fun z u m => by
                    rw [take_one htr] at m
                    rcases List.mem_append.mp m with m | m
                    · exact okl u m
                    · simp at m
                      subst m
                      exact z
                  (repeat array_get_dec)
                  refine ⟨a, fp, D, x, rfl, dk4.1, ?_⟩
                  (repeat array_get_dec)
                  cases hx : getA D.names x with
                  | none =>
                    unfold hasA
                    rw [hx]
                    refine iteT' rfl ?_
                    (repeat array_get_dec)
                    exact bad fun z => by obtain ⟨⟨i, z, _⟩, _⟩ := z; rw [hx] at z; cases z
                  | some j =>
                    unfold hasA
                    rw [hx]
                    refine iteF' rfl ?_
                    (repeat array_get_dec)
                    refine ⟨a, fp, D, x, rfl, dk4, ?_⟩
                    rw [hx]
                    dsimp only [look]
                    (repeat array_get_dec)
                    refine ⟨.int s5, (lateD D j).length, rfl, ?_⟩
                    (repeat array_get_dec)
                    cases hn : (inIB (lateD D j).length (.int s5)).isSome with
                    | false =>
                      refine iteT' rfl ?_
                      (repeat array_get_dec)
                      exact bad fun z => by
                        obtain ⟨⟨i, z1, z2⟩, _⟩ := z
                        rw [hx] at z1
                        cases z1
                        rw [z2] at hn
                        cases hn
                    | true =>
                      refine iteF' rfl ?_
                      (repeat array_get_dec)
                      cases v7 with
                      | int v7 =>
                        unfold vIB
                        (repeat array_get_dec)
                        exact bad fun z => by
                          obtain ⟨_, b, z, _⟩ := z
                          cases z
                      | bl b =>
                        unfold vIB
                        (repeat array_get_dec)
                        cases b with
                        | false =>
                          refine iteF' rfl ?_
                          refine iteF' rfl ?_
                          (repeat array_get_dec)
                          exact ⟨_, _, _, rfl, rfl, good ⟨⟨j, hx, hn⟩, false, rfl, fun z => by cases z.1⟩⟩
                        | true =>
                          refine iteT' rfl ?_
                          (repeat array_get_dec)
                          by_cases h0 : s5 = 0
                          · refine iteT' (decide_eq_true (by rw [h0])) ?_
                            (repeat array_get_dec)
                            exact bad fun z => by
                              obtain ⟨_, b, z1, z2⟩ := z
                              cases z1
                              exact z2 ⟨rfl, h0⟩
                          · refine iteF' (decide_eq_false fun z => h0 (V.int.inj z)) ?_
                            (repeat array_get_dec)
                            exact ⟨_, _, _, rfl, rfl, good ⟨⟨j, hx, hn⟩, true, rfl, fun z => h0 z.2⟩⟩
                · rintro σ H' ⟨v4, v5, v6, rfl, rfl, okl⟩
                  rw [ln, List.take_length] at okl
                  (repeat array_get_dec)
                  intro p hp
                  (repeat array_get_dec)
                  exact q ⟨hch, two, okn, okl⟩ p _ (fun b o e => upd_atN hp (s4 _ _ e)) (by
                    cases e : H p with
                    | none => rfl
                    | some o => rw [s4 _ _ e] at hp; cases hp) upd_same
              · rw [decide_eq_false en]
                refine iteT' rfl ?_
                (repeat array_get_dec)
                exact ke (fun z => en (yeq.mpr z.2.2.1)) _ s4
        · have ez : (((ts.zip trs).filter fun p => isTwo p.2).map fun p => V.ref p.1).isEmpty = false := by
            rw [List.isEmpty_eq_false_iff]
            intro z
            rw [List.map_eq_nil_iff, List.filter_eq_nil_iff] at z
            apply two
            intro tr m
            obtain ⟨i, hi⟩ := List.getElem?_of_mem m
            have li : i < ts.length := by rw [tl]; exact (List.getElem?_eq_some_iff.mp hi).1
            have := z (ts[i], tr) (List.mem_of_getElem? (i := i) (by rw [List.getElem?_zip_eq_some]; exact ⟨List.getElem?_eq_getElem li, hi⟩))
            simpa using this
          rw [ez]
          refine iteT' rfl ?_
          (repeat array_get_dec)
          exact ke (fun z => two z.2.1) _ s1
end
end K50

namespace K50
open PySem PySem.Spec PyProof.Rows L2
local macro_rules | `(tactic| array_mem_dec) => `(tactic| first | with_reducible assumption | with_reducible exact upd_same | ((with_reducible apply same_at); (with_reducible assumption); array_mem_dec) | ((with_reducible apply upd_atN); (with_reducible assumption); array_mem_dec) | ((with_reducible apply upd_at); (first | with_reducible assumption | (apply Ne.symm; with_reducible assumption)); array_mem_dec))
local macro_rules | `(tactic| array_get_dec) => `(tactic| first | (with_reducible refine w_seq ?_) | (with_reducible refine w_asg ?_) | (with_reducible refine w_drop ?_) | (with_reducible refine w_ret ?_) | (with_reducible refine w_retN ?_) | (with_reducible refine w_next ?_) | (with_reducible refine w_break ?_) | (with_reducible refine w_cont ?_) | (with_reducible refine w_ifS ?_) | (with_reducible refine w_sub ?_) | (with_reducible refine w_c ?_) | (with_reducible refine w_op ?_) | (with_reducible refine w_un ?_) | (with_reducible refine w_test ?_) | (with_reducible refine w_B ?_) | (with_reducible refine w_yes ?_) | (with_reducible refine w_not ?_) | (with_reducible refine w_and ?_) | (with_reducible refine w_or ?_) | (with_reducible refine w_andV ?_) | (with_reducible refine w_orV ?_) | (with_reducible refine w_notV ?_) | (with_reducible refine w_ifE ?_) | (with_reducible refine w_nil ?_) | (with_reducible refine w_cons ?_) | (with_reducible refine w_call ?_) | (with_reducible refine w_callS ?_) | (with_reducible refine w_cB ?_) | (with_reducible refine w_lst ?_) | (with_reducible refine w_tup ?_) | (with_reducible refine w_sl ?_) | (with_reducible refine w_noPart ?_) | (with_reducible refine w_part ?_) | (with_reducible refine w_bm ?_) | (with_reducible refine w_bm0 ?_) | (with_reducible refine w_strTy ?_) | (with_reducible refine w_bl ?_) | (with_reducible refine w_int1 ?_) | (with_reducible refine w_str1 ?_) | (with_reducible refine w_rI0 ?_) | (with_reducible refine w_rU ?_) | (with_reducible refine w_eqI ?_) | (with_reducible refine w_eqS ?_) | (with_reducible refine w_neI ?_) | (with_reducible refine w_neS ?_) | (with_reducible refine w_bl2 ?_) | (with_reducible refine w_isN ?_) | (with_reducible refine w_for ?_) | (with_reducible refine w_iRng1 ?_) | (with_reducible refine w_iRng2 ?_) | (with_reducible refine w_iList ?_) | (with_reducible refine w_iTup ?_) | (with_reducible refine w_iStr ?_) | (with_reducible refine w_lc ?_) | (with_reducible refine w_M1 ?_) | (with_reducible refine w_M0 ?_) | (with_reducible refine w_isS ?_) | ((with_reducible apply w_name); (simp only [wipe, List.map_cons, List.map_nil, List.foldl_cons, List.foldl_nil, List.set_cons_zero, List.set_cons_succ]; exact rfl)) | ((with_reducible apply w_var); exact rfl) | ((with_reducible apply w_lstTy); array_mem_dec) | ((with_reducible apply w_lenL); array_mem_dec) | ((with_reducible apply w_lenT); array_mem_dec) | ((with_reducible apply w_listOf); array_mem_dec) | ((with_reducible apply w_lenS); (first | (with_reducible assumption) | omega | (rw [sizeLine_eq]; omega))) | ((with_reducible apply w_slS); (first | (with_reducible assumption) | omega | (rw [sizeLine_eq]; omega))) | ((with_reducible apply w_wipe); exact rfl) | ((with_reducible apply w_acc); array_mem_dec; (try (first | (with_reducible assumption) | omega | (rw [sizeLine_eq]; omega)))) | ((with_reducible apply w_itl); array_mem_dec) | ((with_reducible apply w_itt); array_mem_dec) | ((with_reducible apply w_append); array_mem_dec; (try (first | (with_reducible assumption) | omega | (rw [sizeLine_eq]; omega)))) | ((with_reducible apply w_rng1); (first | (with_reducible assumption) | omega); (first | (with_reducible assumption) | omega)) | ((with_reducible apply w_ixL); array_mem_dec; (first | (with_reducible assumption) | exact rfl | (apply atI_nat; (with_reducible assumption)) | exact atI_last _ _)) | ((with_reducible apply w_ixT); array_mem_dec; (first | (with_reducible assumption) | exact rfl | (apply atI_nat; (with_reducible assumption)) | exact atI_last _ _)) | ((with_reducible apply w_iT); first | exact rfl | (with_reducible assumption)) | ((with_reducible apply w_iF); first | exact rfl | (with_reducible assumption)) | ((with_reducible apply w_isiI (b := true)); decide +kernel) | ((with_reducible apply w_isiI (b := false)); decide +kernel) | ((with_reducible apply w_isiB (b := true)); decide +kernel) | ((with_reducible apply w_isiB (b := false)); decide +kernel) | ((with_reducible apply w_isiS (b := true)); decide +kernel) | ((with_reducible apply w_isiS (b := false)); decide +kernel) | ((with_reducible apply w_isiN (b := true)); decide +kernel) | ((with_reducible apply w_isiN (b := false)); decide +kernel) | ((with_reducible apply w_isiL (b := true)); array_mem_dec; decide +kernel) | ((with_reducible apply w_isiL (b := false)); array_mem_dec; decide +kernel) | ((with_reducible apply w_isiT (b := true)); array_mem_dec; decide +kernel) | ((with_reducible apply w_isiT (b := false)); array_mem_dec; decide +kernel) | (with_reducible refine w_notT ?_) | (with_reducible refine w_chain ?_) | ((with_reducible apply w_trL); array_mem_dec) | ((with_reducible apply w_gTup); array_mem_dec; exact rfl) | ((with_reducible apply w_gLst); array_mem_dec; exact rfl) | (with_reducible refine w_gCons ?_) | (with_reducible refine w_gNil ?_) | (with_reducible refine w_Fld ?_) | (with_reducible refine w_sFld ?_) | (with_reducible refine w_dget ?_) | (with_reducible refine w_dIn ?_) | (with_reducible refine w_dNotIn ?_) | (with_reducible refine w_sDPut ?_) | (with_reducible refine w_dnewK ?_) | (with_reducible refine w_meth ?_) | (with_reducible refine w_make ?_) | (with_reducible refine w_methS ?_) | (with_reducible refine w_makeS ?_) | (with_reducible refine w_dpop ?_) | ((with_reducible apply w_fld1); array_mem_dec; (with_reducible assumption); (with_reducible assumption); exact rfl) | ((with_reducible apply w_sfld1); array_mem_dec; (with_reducible assumption); (with_reducible assumption); exact Nat.le_of_ble_eq_true rfl) | ((with_reducible apply w_meth1); array_mem_dec; exact rfl) | ((with_reducible apply w_dgetS); array_mem_dec; (with_reducible assumption)) | ((with_reducible apply w_dgetI); array_mem_dec; (with_reducible assumption)) | ((with_reducible apply w_dinS); array_mem_dec) | ((with_reducible apply w_dputI); array_mem_dec; (try (first | (with_reducible assumption) | omega | (rw [sizeLine_eq]; omega)))) | ((with_reducible apply w_dputS); array_mem_dec; (try (first | (with_reducible assumption) | omega | (rw [sizeLine_eq]; omega)))) | ((with_reducible apply w_isD); array_mem_dec) | ((with_reducible apply w_dictD); array_mem_dec) | ((with_reducible apply w_dpopS); array_mem_dec; (with_reducible assumption)) | ((with_reducible apply w_setL); array_mem_dec; exact rfl) | ((with_reducible apply w_cat); array_mem_dec; array_mem_dec; (try (first | (with_reducible assumption) | omega | (rw [sizeLine_eq]; omega)))) | (with_reducible refine w_iKeys ?_) | (with_reducible refine w_dget2 ?_) | (with_reducible refine w_scX ?_) | ((with_reducible apply w_keysF); array_mem_dec) | ((with_reducible apply w_dgetSF); array_mem_dec; (with_reducible assumption)))
/-! ### the disk that is found -/
def foldP (g : Nat → Tx) (L : Nm) (acc : List (Nat × Tx)) : List (Nat × Tx) := L.foldl (fun acc p => putA acc p.2 (g p.2)) acc
theorem foldP_snoc {g : Nat → Tx} {L : Nm} {p : Tx × Nat} {acc : List (Nat × Tx)} : foldP g (L ++ [p]) acc = putA (foldP g L acc) p.2 (g p.2) := by
  unfold foldP
  rw [List.foldl_append]; rfl
theorem getA_foldP {g : Nat → Tx} {n : Nat} : ∀ {L : Nm} {acc : List (Nat × Tx)}, getA (foldP g L acc) n = if n ∈ L.map (·.2) then some (g n) else getA acc n
  | [], acc => by simp [foldP]
  | p :: r, acc => by
    show getA (foldP g r (putA acc p.2 (g p.2))) n = _
    rw [getA_foldP, getA_put]
    by_cases h : n ∈ r.map (·.2)
    · rw [if_pos h, if_pos (by rw [List.map_cons]; exact List.mem_cons_of_mem _ h)]
    · rw [if_neg h]
      by_cases e : n = p.2
      · rw [if_pos e, if_pos (by rw [List.map_cons, e]; exact List.mem_cons_self), e]
      · rw [if_neg e, if_neg (by rw [List.map_cons, List.mem_cons]; exact fun z => z.elim e h)]
theorem foldP_len {g : Nat → Tx} : ∀ {L : Nm} {acc : List (Nat × Tx)}, (foldP g L acc).length ≤ acc.length + L.length
  | [], acc => Nat.le_refl _
  | p :: r, acc => by
    have h := foldP_len (g := g) (L := r) (acc := putA acc p.2 (g p.2))
    have := putA_len (l := acc) (x := p.2) (v := g p.2)
    show (foldP g r (putA acc p.2 (g p.2))).length ≤ _
    rw [List.length_cons]; omega
theorem foldP_mem {g : Nat → Tx} {q : Nat × Tx} : ∀ {L : Nm} {acc : List (Nat × Tx)}, q ∈ foldP g L acc → q ∈ acc ∨ ∃ n ∈ L.map (·.2), q = (n, g n)
  | [], acc, h => .inl h
  | p :: r, acc, h => by
    rcases foldP_mem (L := r) h with h | ⟨n, hn, e⟩
    · rcases putA_mem h with h | h
      · exact .inl h
      · exact .inr ⟨p.2, by simp, h⟩
    · exact .inr ⟨n, by rw [List.map_cons]; exact List.mem_cons_of_mem _ hn, e⟩
def partT (u : Tx) (n : Nat) (b : Bool) : Tx := if b = true then (u.take n).dropLast ++ [63] else u.take n
def toldS (D : DS) (acc : List (Nat × Tx)) : Tear → List (Nat × Tx)
  | .three x s (.bl b) => match getA D.names x with | some i => putA acc i (partT (lateD D i) s.toNat b) | none => acc
  | _ => acc
def toldD (D : DS) (trs : List Tear) : List (Nat × Tx) := trs.foldl (toldS D) []
theorem toldD_snoc {D : DS} {l : List Tear} {t : Tear} : toldD D (l ++ [t]) = toldS D (toldD D l) t := by
  unfold toldD
  rw [List.foldl_append]; rfl
theorem toldS_len {D : DS} {acc : List (Nat × Tx)} {t : Tear} : (toldS D acc t).length ≤ acc.length + 1 := by
  unfold toldS
  split
  · split
    · exact putA_len
    · omega
  · omega
theorem toldD_len {D : DS} : ∀ {l : List Tear}, (toldD D l).length ≤ l.length := by
  intro l
  suffices h : ∀ (l : List Tear) (acc : List (Nat × Tx)), (l.foldl (toldS D) acc).length ≤ acc.length + l.length by
    have := h l []
    simpa [toldD] using this
  intro l
  induction l with
  | nil => intro acc; exact Nat.le_refl _
  | cons t r ih =>
    intro acc
    have := ih (toldS D acc t)
    have := toldS_len (D := D) (acc := acc) (t := t)
    show (r.foldl (toldS D) (toldS D acc t)).length ≤ _
    rw [List.length_cons]; omega
def toldA (told : List (Nat × Tx)) (n : Nat) : Tx := (getA told n).getD []
def foundD (D : DS) (k : Nat) (told : List (Nat × Tx)) : DS :=
  { kept := foldP (fun n => keptD D n ++ toldA told n) (applyA D.sure (D.ch.take k)) [], late := foldP (fun _ => []) (applyA D.sure (D.ch.take k)) [], names := applyA D.sure (D.ch.take k), sure := applyA D.sure (D.ch.take k), ch := [], next := D.next }
theorem nums_take {D : DS} {k n : Nat} (h : n ∈ (applyA D.sure (D.ch.take k)).map (·.2)) : numsD D n := by
  rcases applyA_nums _ h with h | h
  · exact .inl h
  · obtain ⟨c, hc, e⟩ := List.mem_filterMap.mp h
    exact .inr (List.mem_filterMap.mpr ⟨c, List.mem_of_mem_take hc, e⟩)
theorem wf_found {D : DS} (w : wf D) (k : Nat) (told : List (Nat × Tx)) : wf (foundD D k told) := by
  have num : ∀ n, numsD (foundD D k told) n → n ∈ (applyA D.sure (D.ch.take k)).map (·.2) := fun n z => z.elim id fun y => by
    have y' : n ∈ ([] : List Nat) := y
    cases y'
  refine ⟨trivial, rfl, applyA_nodup _ w.nd, fun n z => ?_, fun n z => ?_, fun n z => w.nx n (nums_take (num n z))⟩
  · rw [show (foundD D k told).kept = foldP (fun n => keptD D n ++ toldA told n) (applyA D.sure (D.ch.take k)) [] from rfl, getA_foldP, if_pos (num n z)]; rfl
  · rw [show (foundD D k told).late = foldP (fun _ => []) (applyA D.sure (D.ch.take k)) [] from rfl, getA_foldP, if_pos (num n z)]; rfl
def spCutOff (CD CP : Addr) : Sp := fun vs H Q E => ∃ (a : Addr) (fp : List Addr) (D : DS) (ch : IB) (c : Addr) (ts : List Addr) (trs : List Tear), vs = [.ref a, vIB ch, .ref c] ∧ DiskAt CD H a fp D ∧ H c = some (.lst (ts.map V.ref)) ∧ TeAt H ts trs ∧ trs.length < 64 ∧ c ∉ fp ∧
  (∀ t ∈ trs, ∀ k ∈ nameT t, k < 1114112) ∧
  (okTears D ch trs → ∀ k, inIB D.ch.length ch = some k → bd (foundD D k (toldD D trs)) ∧ ∀ b H' fp', DiskAt CD H' b fp' (foundD D k (toldD D trs)) → Same H H' → (∀ c ∈ fp', H c = none) → Q (.ref b) H') ∧ (¬ okTears D ch trs → ∀ H', Same H H' → E (.ref CP) none H')
section
variable {P : Program} {w : World} {K : PySem.W.Frag} {mg : Str → Option Value} {base : Heap}
theorem ok_Disk_cut_off (M : Nms K mg) : FnOk P w K mg base (L2N.CX P w) 4 M.a_Disk_cut_off M.d_Disk_cut_off ["self", "changes", "tears"] (spCutOff M.CD M.CP) := by
  obtain ⟨tSP, GSP⟩ := M.cSP
  refine M.F_Disk_cut_off.okN sc_Disk_cut_off (fun vs H Q E h => ?_) (fun cdv A outer s H vs Q E hr h => ?_)
  · obtain ⟨a, fp, D, ch, c, ts, trs, rfl, _⟩ := h
    rfl
  · have hu := hu1 hr
    have clD := M.clD
    have nD_kept := M.nD_kept
    have nD_late := M.nD_late
    have nD_names := M.nD_names
    have nD_sure := M.nD_sure
    have nD_changes := M.nD_changes
    have nD_next := M.nD_next
    refine ⟨_, (pss_cons (ps_set (i := 3) sc_Disk_cut_off.nd rfl (Or.inl rfl) (pe_callS (ok_checked_tears M) (hr.mono (by decide)) rfl M.g_checked_tears M.k_checked_tears M.b_checked_tears (fun σ => L2N.passAt (L2N.takes_of rfl rfl rfl rfl) σ) (pa_cons (pv 0) (pa_cons (pv 1) (pa_cons (pv 2) pa_nil)))))
    (pss_cons (ps_set (i := 4) sc_Disk_cut_off.nd rfl (Or.inl rfl) pe_dnewK)
    (pss_cons (ps_for (passes_of rfl) rfl (pi_list (pv 3)) (pg_tup rfl (pgs_cons (pg_name (i := 5) sc_Disk_cut_off.nd rfl (Or.inl rfl)) (pgs_cons (pg_name (i := 6) sc_Disk_cut_off.nd rfl (Or.inl rfl)) (pgs_cons (pg_name (i := 7) sc_Disk_cut_off.nd rfl (Or.inl rfl)) pgs_nil)))) (pss_cons (ps_set (i := 8) sc_Disk_cut_off.nd rfl (Or.inl rfl) (pe_dget hu (pe_fld (pv 0) rfl) (pv 5) (fun _ _ => rfl)))
    (pss_cons (ps_set (i := 9) sc_Disk_cut_off.nd rfl (Or.inl rfl) (pe_slice sl_str (pe_dget hu (pe_fld (pv 0) rfl) (pv 8) (fun _ _ => rfl)) po_none (po_some (pv 6))))
    (pss_one (ps_dput hu (pv 4) (pv 8) (pe_ifExp (pt_val (pv 7)) (pe_op op_add_str (pe_slice sl_str (pv 9) po_none (po_some (pe_un un_neg pe_int))) (pe_glob (v := .str (Str.ofString "?")) rfl GSP ⟨_, rfl⟩)) (pv 9)) rfl)))))
    (pss_cons (ps_set (i := 10) sc_Disk_cut_off.nd rfl (Or.inl rfl) (pe_make0 M.mkD (ok_Disk___init__ M) (hr.mono (by decide)) rfl M.gD M.b_Disk___init__ .nil pass0))
    (pss_cons (ps_fld (pv 10) (pe_call (ok_applied M) (hr.mono (by decide)) rfl M.g_applied M.k_applied M.b_applied .nil pass0 (pa_cons (pe_fld (pv 0) rfl) (pa_cons (pe_slice (r := rSlL K) sl_list (pe_fld (pv 0) rfl) po_none (po_some (pv 1))) pa_nil))) rfl)
    (pss_cons (ps_lock (ps_for (passes_of rfl) rfl (pi_keys (pe_fld (pv 10) rfl)) (pg_name (i := 5) sc_Disk_cut_off.nd rfl (Or.inl rfl)) (pss_cons (ps_set (i := 8) sc_Disk_cut_off.nd rfl (Or.inl rfl) (pe_dget hu (pe_fld (pv 10) rfl) (pv 5) (fun _ _ => rfl)))
    (pss_cons (ps_dput hu (pe_fld (pv 10) rfl) (pv 8) (pe_op op_add_str (pe_dget hu (pe_fld (pv 0) rfl) (pv 8) (fun _ _ => rfl)) (pe_dget2 hu (pv 4) (pv 8) pe_str ⟨rfl, rfl, rfl, rfl⟩)) rfl)
    (pss_one (ps_dput hu (pe_fld (pv 10) rfl) (pv 8) pe_str rfl))))))
    (pss_cons (ps_fld (pv 10) (pe_fld (pv 0) rfl) rfl)
    (pss_cons (ps_fld (pv 10) (pe_callTy call_dictD (by rfl) M.T.b_dict (by decide +kernel) (pa_cons (pe_fld (pv 10) rfl) pa_nil)) rfl)
    (pss_one (ps_ret (pv 10))))))))))), ?_⟩
    try dsimp only [cxOf, Cx.nox]
    obtain ⟨a, fp, D, ch, c, ts, trs, rfl, dk, hc, te, h60, ncf, na, q, ke⟩ := h
    obtain ⟨⟨k0, l0, n0, sa0, c0, ts0, efp, ⟨nd0, ⟨dx0, hi⟩, hk, hl, hn, hs, hch0, tp, sm⟩⟩, wfd⟩ := id dk
    refine w_start (σ' := [some (.ref a), some (vIB ch), some (.ref c), none, none, none, none, none, none, none, none]) rfl ?_
    have tln := te.len
    (repeat array_get_dec)
    refine ⟨a, fp, D, ch, c, ts, trs, rfl, dk, hc, te, h60, ncf, na, fun okt p H1 s1 fp1 hp1 => ?_, ke⟩
    obtain ⟨k, hk2⟩ := Option.isSome_iff_exists.mp okt.1
    obtain ⟨bdF, qq⟩ := q okt k hk2
    obtain ⟨rfl, hkl⟩ : ch = .int (k : Int) ∧ k ≤ D.ch.length := by
      cases ch with
      | bl b => cases hk2
      | int i0 =>
        have em' : (if 0 ≤ i0 ∧ i0 ≤ (D.ch.length : Int) then some i0.toNat else none) = some k := hk2
        split at em'
        · rename_i w2
          have := Option.some.inj em'
          exact ⟨by rw [← this, Int.toNat_of_nonneg w2.1], by omega⟩
        · cases em'
    (repeat array_get_dec)
    intro td htd
    have s2 : Same H (upd H1 td (.dK [])) := fun b o e => upd_atN htd (s1 _ _ e)
    have tdH : H td = none := by
      cases e : H td with
      | none => rfl
      | some o => rw [s1 _ _ e] at htd; cases htd
    have hp2 := upd_atN (o := .dK []) htd hp1
    (repeat array_get_dec)
    refine for_list (K := K) (a := p) (xs := ts.map V.ref) (fun i σ H' => ∃ v5 v6 v7 v8 v9, σ = [some (.ref a), some (.int (k : Int)), some (.ref c), some (.ref p), some (.ref td), v5, v6, v7, v8, v9, none] ∧ H' td = some (.dK (kvM (toldD D (trs.take i)))) ∧ ∀ b o, b ≠ td → upd H1 td (.dK []) b = some o → H' b = some o) ⟨_, _, _, _, _, rfl, upd_same, fun b o _ e => e⟩ ?_ ?_ ?_
    · rintro i σ H' hi' ⟨v5, v6, v7, v8, v9, rfl, h1, h2⟩
      exact SqL.of (h2 _ _ (ne_of_none hp1 htd) hp2)
    · rintro i v σ H' hv ⟨v5, v6, v7, v8, v9, rfl, h1, h2⟩
      obtain ⟨t, ht, rfl⟩ := getE_map hv
      obtain ⟨tr, htr, htt⟩ := te.get i ht
      have back : ∀ b o, H b = some o → H' b = some o := fun b o e => h2 b o (fun z => by rw [z, tdH] at e; cases e) (s2 _ _ e)
      have htt' := back _ _ htt
      have hi' := back _ _ hi
      have hl' := back _ _ hl
      have hn' := back _ _ hn
      have okr := okt.2.2.2 tr (List.mem_of_getElem? htr)
      cases tr with
      | two x y => exact okr.elim
      | three x s5 v0 =>
        obtain ⟨⟨j, hj, hjs⟩, b, rfl, hb⟩ := okr
        have e1 : valV (kvT D.names) (Sum.inr (mkS x)) = some (.int ((j : Nat) : Int)) := by rw [kvT_val, hj]; rfl
        obtain ⟨t0, u, g1, g2, b1, b2, er, eu, ek⟩ := texts_at wfd sm hj
        have e2 : valV (kvM D.late) (Sum.inl ((j : Nat) : Int)) = some (sv u) := by rw [kvM_val, g2]; rfl
        obtain ⟨n, rfl⟩ : ∃ n : Nat, s5 = (n : Int) := by
          rw [inIB_int] at hjs
          rw [Bool.and_eq_true, decide_eq_true_eq] at hjs
          exact ⟨s5.toNat, (Int.toNat_of_nonneg hjs.1).symm⟩
        unfold tupT vIB at htt'
        have hz : (mkS u).length ≤ sizeLine := by rw [sizeLine_eq, len_tl]; show u.length ≤ _; omega
        have lz : (kvM (toldD D (trs.take i))).length < sizeLine := by
          rw [kvM_len, sizeLine_eq]
          have := toldD_len (D := D) (l := trs.take i)
          rw [List.length_take] at this
          omega
        have fin : ∀ H2 : Hp, H2 td = some (.dK (putK (kvM (toldD D (trs.take i))) (Sum.inl ((j : Nat) : Int)) (sv (partT u n b)))) → (∀ b o, b ≠ td → upd H1 td (.dK []) b = some o → H2 b = some o) → H2 td = some (.dK (kvM (toldD D (trs.take (i + 1))))) ∧ ∀ b o, b ≠ td → upd H1 td (.dK []) b = some o → H2 b = some o := fun H2 a1 a2 => ⟨by
          rw [a1, kvM_put, take_one htr, toldD_snoc]
          unfold toldS
          dsimp only
          rw [hj]
          dsimp only
          rw [eu, Int.toNat_natCast], a2⟩
        (repeat array_get_dec)
        rw [cut_pre]
        have tm : tl (mkS u) = u := rfl
        rw [tm]
        have lp : (u.take n).length ≤ 400000 := by rw [List.length_take]; omega
        have hz2 : (mkS (u.take n)).length ≤ sizeLine := by rw [sizeLine_eq, len_tl]; show (u.take n).length ≤ _; omega
        cases b with
        | false =>
          (repeat array_get_dec)
          exact ⟨_, _, _, _, _, rfl, fin _ (by rw [upd_same]; rfl) fun b o nb e => by rw [upd_ne nb]; exact h2 b o nb e⟩
        | true =>
          (repeat array_get_dec)
          rw [cut_last]
          have tm2 : tl (mkS (u.take n)) = u.take n := rfl
          rw [tm2]
          have eq : Str.ofString "?" = mkS [63] := by decide +kernel
          rw [eq]
          refine w_addS (fit_add (s := mkS (u.take n).dropLast) (t := mkS [63]) (a := 400000) (b := 1) (by rw [len_tl]; show ((u.take n).dropLast).length ≤ _; rw [List.length_dropLast]; omega) (by decide +kernel) (by omega)) ?_
          rw [mkS_app]
          (repeat array_get_dec)
          exact ⟨_, _, _, _, _, rfl, fin _ (by rw [upd_same]; rfl) fun b o nb e => by rw [upd_ne nb]; exact h2 b o nb e⟩
    · rintro σ H2 ⟨v5, v6, v7, v8, v9, rfl, h1, h2⟩
      have ln : (ts.map V.ref).length = trs.length := by rw [List.length_map, tln]
      rw [ln, List.take_length] at h1
      have back : ∀ b o, H b = some o → H2 b = some o := fun b o e => h2 b o (fun z => by rw [z, tdH] at e; cases e) (s2 _ _ e)
      (repeat array_get_dec)
      intro b db hb hdb hne
      refine ⟨b, db, rfl, upd_same, fun H3 fp3 dk3 fr3 => ⟨rfl, ?_⟩⟩
      have s3 : Same H2 H3 := fun x o e => fr3.keep (by rw [upd_ne (ne_of_none e hb), upd_ne (ne_of_none e hdb)]; exact e) (by simp; exact ne_of_none e hb)
      have sH3 : Same H H3 := fun x o e => s3 _ _ (back _ _ e)
      obtain ⟨⟨k3, l3, n3, sa3, c3, ts3, efp3, ⟨nd3, ⟨dx3, gi⟩, gk, gl, gn, gs, gc, gtp, _⟩⟩, _⟩ := dk3
      have ts3e : ts3 = [] := List.eq_nil_of_length_eq_zero gtp.len
      subst ts3e
      have fresh32 : ∀ x ∈ fp3, H2 x = none := fun x m => by
        rcases fr3.2 x m with z | z
        · simp at z
          subst z
          exact hb
        · cases e : H2 x with
          | none => rfl
          | some o =>
            rw [upd_ne (ne_of_none e hb), upd_ne (ne_of_none e hdb), e] at z
            cases z
      have fresh3 : ∀ x ∈ fp3, H x = none := fun x m => by
        cases e : H x with
        | none => rfl
        | some o =>
          have e2 := back _ _ e
          rw [fresh32 x m] at e2
          cases e2
      have tdk : td ≠ k3 := ne_of_none h1 (fresh32 k3 (by rw [efp3]; simp))
      have tdl : td ≠ l3 := ne_of_none h1 (fresh32 l3 (by rw [efp3]; simp))
      have tdb : td ≠ b := ne_of_none h1 (fresh32 b (by rw [efp3]; simp))
      have f1 : H b = none := fresh3 b (by rw [efp3]; simp)
      have f2 : H k3 = none := fresh3 k3 (by rw [efp3]; simp)
      have f3 : H l3 = none := fresh3 l3 (by rw [efp3]; simp)
      have f6 : H c3 = none := fresh3 c3 (by rw [efp3]; simp)
      have gt3 := s3 _ _ h1
      have hi3 := sH3 _ _ hi
      have hs3 := sH3 _ _ hs
      have hc3 := sH3 _ _ hch0
      (repeat array_get_dec)
      refine ⟨c0, _, rfl, SqL.of hc3, fun cp hcp => ?_⟩
      rw [cutV_pre]
      have hs4 := upd_atN (o := .lst ((ts0.take k).map V.ref)) hcp hs3
      have oka := okA_take wfd.ok k
      have lenN : (applyA D.sure (D.ch.take k)).length < 64 := bdF.names
      refine ⟨sa0, cp, ts0.take k, D.sure, D.ch.take k, rfl, hs4, upd_same, ChAt.take k (tp.keep fun u m o e => upd_atN hcp (sH3 _ _ e)), oka, by have := sm.sure; have := sm.ch; rw [List.length_take]; omega, fun n4 H4 s4 fn4 hn4 => ?_⟩
      have sc : ∀ x o, H3 x = some o → H4 x = some o := fun x o e => s4 _ _ (upd_atN hcp e)
      have n4n : ∀ x o, H3 x = some o → x ≠ n4 := fun x o e => ne_of_none (upd_atN (o := .lst ((ts0.take k).map V.ref)) hcp e) fn4
      have f4 : H n4 = none := by
        cases e : H n4 with
        | none => rfl
        | some o => exact absurd rfl (n4n _ _ (sH3 _ _ e))
      generalize hL : applyA D.sure (D.ch.take k) = L at *
      have numL : ∀ n ∈ L.map (·.2), numsD D n := fun n m => nums_take (k := k) (by rw [hL]; exact m)
      have ndL : (L.map (·.1)).Nodup := by rw [← hL]; exact applyA_nodup _ wfd.nd
      have gi3 := gi
      replace gi := sc _ _ gi
      have gk4 := sc _ _ gk
      have gl4 := sc _ _ gl
      have gs4 := sc _ _ gs
      have gc4 := sc _ _ gc
      have gt4 := sc _ _ gt3
      have hi4 := sc _ _ hi3
      have hk4 := sc _ _ (sH3 _ _ hk)
      simp only [List.nodup_cons, List.mem_cons, List.not_mem_nil, or_false, not_or] at nd3
      obtain ⟨⟨n1, n2, n3', n4', n5⟩, ⟨n6, n7, n8, n9⟩, ⟨n10, n11, n12⟩, ⟨n13, n14⟩, n15, _⟩ := nd3
      (repeat array_get_dec)
      have cb4 : b ≠ n4 := n4n _ _ gi3
      have n4k : n4 ≠ k3 := Ne.symm (n4n _ _ gk)
      have n4l : n4 ≠ l3 := Ne.symm (n4n _ _ gl)
      have n4c : n4 ≠ c3 := Ne.symm (n4n _ _ gc)
      have hn5 : upd H4 b (.ins M.CD dx3 (putF (Str.ofString "_names") (.ref n4) (dF k3 l3 n3 sa3 c3 noneD.next))) n4 = some (.dK (kvT L)) := by rw [upd_ne (Ne.symm cb4)]; exact hn4
      refine ⟨n4, _, hn5, trivial, fun od => ?_⟩
      have s5 : ∀ x o, H x = some o → upd (upd H4 b (.ins M.CD dx3 (putF (Str.ofString "_names") (.ref n4) (dF k3 l3 n3 sa3 c3 noneD.next)))) n4 (.frz od (.dK (kvT L))) x = some o := fun x o e => by
        rw [upd_ne (n4n _ _ (sH3 _ _ e)), upd_ne (ne_of_none e f1)]
        exact sc _ _ (sH3 _ _ e)
      (repeat array_get_dec)
      refine for_keys (d := n4) (od := od) (kvs := kvT L) (fun i σ H' => ∃ v5 v8, σ = [some (.ref a), some (.int (k : Int)), some (.ref c), some (.ref p), some (.ref td), v5, v6, v7, v8, v9, some (.ref b)] ∧
          H' k3 = some (.dK (kvM (foldP (fun n => keptD D n ++ toldA (toldD D trs) n) (L.take i) []))) ∧ H' l3 = some (.dK (kvM (foldP (fun _ => []) (L.take i) []))) ∧ ∀ x o, x ≠ k3 → x ≠ l3 → upd (upd H4 b (.ins M.CD dx3 (putF (Str.ofString "_names") (.ref n4) (dF k3 l3 n3 sa3 c3 noneD.next)))) n4 (.frz od (.dK (kvT L))) x = some o → H' x = some o) ⟨_, _, rfl, ?_, ?_, fun x o _ _ e => e⟩ ?_ ?_ ?_
      · rw [upd_ne (Ne.symm n4k), upd_ne (Ne.symm n1)]
        exact gk4
      · rw [upd_ne (Ne.symm n4l), upd_ne (Ne.symm n2)]
        exact gl4
      · rintro i σ H' hi' ⟨v5, v8, rfl, g1, g2, g3⟩
        exact g3 _ _ n4k n4l upd_same
      · rintro i ky v σ H' hkv ⟨v5, v8, rfl, g1, g2, g3⟩
        obtain ⟨⟨x, n⟩, hLi, ekv⟩ : ∃ p, L[i]? = some p ∧ (ky, v) = ((Sum.inr (mkS p.1) : Key), V.int (p.2 : Int)) := by
          unfold kvT at hkv
          rw [List.getElem?_map] at hkv
          cases e : L[i]? with
          | none => rw [e] at hkv; cases hkv
          | some p => rw [e] at hkv; exact ⟨p, rfl, (Option.some.inj hkv).symm⟩
        cases ekv
        have mL := List.mem_of_getElem? hLi
        have gx : getA L x = some n := getA_of_mem ndL mL
        have numn : numsD D n := numL n (List.mem_map_of_mem (f := (·.2)) mL)
        have e1 : valV (kvT L) (Sum.inr (mkS x)) = some (.int ((n : Nat) : Int)) := by rw [kvT_val, gx]; rfl
        have hfz := g3 _ _ n4k n4l upd_same
        have gb : H' b = some (.ins M.CD dx3 (putF (Str.ofString "_names") (.ref n4) (dF k3 l3 n3 sa3 c3 noneD.next))) := g3 _ _ n1 n2 (by rw [upd_ne cb4, upd_same])
        have keepH : ∀ x o, H x = some o → H' x = some o := fun x o e => g3 x o (ne_of_none e f2) (ne_of_none e f3) (s5 x o e)
        have hi6 := keepH _ _ hi
        have hk6 := keepH _ _ hk
        have gtd : H' td = some (.dK (kvM (toldD D trs))) := g3 _ _ tdk tdl (by rw [upd_ne (n4n _ _ gt3), upd_ne tdb]; exact gt4)
        obtain ⟨t0, ht0⟩ := Option.isSome_iff_exists.mp (wfd.kp n numn)
        have e2 : valV (kvM D.kept) (Sum.inl ((n : Nat) : Int)) = some (sv t0) := by rw [kvM_val, ht0]; rfl
        have b1 : t0.length ≤ 400000 := sm.kt _ (getA_mem ht0)
        dsimp only [kV]
        (repeat array_get_dec)
        refine ⟨_, DGet.k (k := Sum.inl ((n : Nat) : Int)) gtd, ?_⟩
        have ev : (valV (kvM (toldD D trs)) (Sum.inl ((n : Nat) : Int))).getD (.str (Str.ofString "")) = sv (toldA (toldD D trs) n) := by
          rw [kvM_val]
          unfold toldA
          cases getA (toldD D trs) n <;> rfl
        rw [ev]
        have ek : keptD D n = t0 := by unfold keptD; rw [ht0]; rfl
        have lg : (t0 ++ toldA (toldD D trs) n).length ≤ 400000 := by
          have := bdF.kt (n, keptD D n ++ toldA (toldD D trs) n) (getA_mem (by
            rw [show (foundD D k (toldD D trs)).kept = foldP (fun n => keptD D n ++ toldA (toldD D trs) n) (applyA D.sure (D.ch.take k)) [] from rfl, hL, getA_foldP, if_pos (List.mem_map_of_mem (f := (·.2)) mL)]))
          rw [ek] at this
          exact this
        rw [List.length_append] at lg
        refine w_addS (fit_add (s := mkS t0) (t := mkS (toldA (toldD D trs) n)) (a := t0.length) (b := (toldA (toldD D trs) n).length) (Nat.le_of_eq (len_tl _)) (Nat.le_of_eq (len_tl _)) (by omega)) ?_
        rw [mkS_app]
        have lz1 : (kvM (foldP (fun n => keptD D n ++ toldA (toldD D trs) n) (L.take i) [])).length < sizeLine := by
          rw [kvM_len, sizeLine_eq]
          have := foldP_len (g := fun n => keptD D n ++ toldA (toldD D trs) n) (L := L.take i) (acc := [])
          rw [List.length_take] at this
          simp at this
          omega
        have lz2 : (kvM (foldP (fun _ => []) (L.take i) [])).length < sizeLine := by
          rw [kvM_len, sizeLine_eq]
          have := foldP_len (g := fun _ => []) (L := L.take i) (acc := [])
          rw [List.length_take] at this
          simp at this
          omega
        (repeat array_get_dec)
        refine ⟨_, _, rfl, ?_, ?_, fun x o nk nl e => by rw [upd_ne nl, upd_ne nk]; exact g3 x o nk nl e⟩
        · rw [upd_ne n6, upd_same, take_one hLi, foldP_snoc, ← ek]
          exact congrArg (fun z => some (HO.dK z)) (kvM_put _ _ _)
        · rw [upd_same, take_one hLi, foldP_snoc]
          exact congrArg (fun z => some (HO.dK z)) (kvM_put _ _ _)
      · rintro σ H' ⟨v5, v8, rfl, g1, g2, g3⟩
        rw [kvT_len, List.take_length] at g1 g2
        have hfz := g3 _ _ n4k n4l upd_same
        refine ⟨hfz, ?_⟩
        have gb : H' b = some (.ins M.CD dx3 (putF (Str.ofString "_names") (.ref n4) (dF k3 l3 n3 sa3 c3 noneD.next))) := g3 _ _ n1 n2 (by rw [upd_ne cb4, upd_same])
        have gb6 : upd H' n4 (.dK (kvT L)) b = some (.ins M.CD dx3 (putF (Str.ofString "_names") (.ref n4) (dF k3 l3 n3 sa3 c3 noneD.next))) := by rw [upd_ne cb4]; exact gb
        have gk6 : upd H' n4 (.dK (kvT L)) k3 = some (.dK (kvM (foldP (fun n => keptD D n ++ toldA (toldD D trs) n) L []))) := by rw [upd_ne (Ne.symm n4k)]; exact g1
        have gl6 : upd H' n4 (.dK (kvT L)) l3 = some (.dK (kvM (foldP (fun _ => []) L []))) := by rw [upd_ne (Ne.symm n4l)]; exact g2
        have gc6 : upd H' n4 (.dK (kvT L)) c3 = some (.lst []) := by
          rw [upd_ne (Ne.symm n4c)]
          exact g3 _ _ (Ne.symm n9) (Ne.symm n12) (by rw [upd_ne (Ne.symm n4c), upd_ne (Ne.symm n5)]; exact gc4)
        have gn6 : upd H' n4 (.dK (kvT L)) n4 = some (.dK (kvT L)) := upd_same
        have s6 : ∀ x o, H x = some o → upd H' n4 (.dK (kvT L)) x = some o := fun x o e => by
          rw [upd_ne (ne_of_none e f4)]
          exact g3 x o (ne_of_none e f2) (ne_of_none e f3) (s5 x o e)
        have hi6 := s6 _ _ hi
        generalize upd H' n4 (.dK (kvT L)) = H6 at *
        (repeat array_get_dec)
        intro s7 hs7
        obtain ⟨s7b, s7n⟩ := hu2 hs7
        have m1 := ne_of_none gk6 s7n
        have m2 := ne_of_none gl6 s7n
        have m3 := ne_of_none gn6 s7n
        have m4 := ne_of_none gc6 s7n
        have f7 : H s7 = none := by
          cases e : H s7 with
          | none => rfl
          | some o => rw [s6 _ _ e] at s7n; cases s7n
        have bs7 := Ne.symm s7b
        (repeat array_get_dec)
        have eF : foundD D k (toldD D trs) = { kept := foldP (fun n => keptD D n ++ toldA (toldD D trs) n) L [], late := foldP (fun _ => []) L [], names := L, sure := L, ch := [], next := D.next } := by
          unfold foundD
          rw [hL]
        have wff := wf_found wfd k (toldD D trs)
        rw [eF] at qq bdF wff
        refine qq b _ [b, k3, l3, n4, s7, c3] ⟨⟨k3, l3, n4, s7, c3, [], rfl, ⟨?_, ⟨dx3, upd_same⟩, by ((repeat (first | with_reducible exact upd_same | with_reducible refine (upd_ne (by first | assumption | (apply Ne.symm; assumption))).trans ?_)); (try (first | assumption | exact upd_same))), by ((repeat (first | with_reducible exact upd_same | with_reducible refine (upd_ne (by first | assumption | (apply Ne.symm; assumption))).trans ?_)); (try (first | assumption | exact upd_same))), by ((repeat (first | with_reducible exact upd_same | with_reducible refine (upd_ne (by first | assumption | (apply Ne.symm; assumption))).trans ?_)); (try (first | assumption | exact upd_same))), by ((repeat (first | with_reducible exact upd_same | with_reducible refine (upd_ne (by first | assumption | (apply Ne.symm; assumption))).trans ?_)); (try (first | assumption | exact upd_same))), by ((repeat (first | with_reducible exact upd_same | with_reducible refine (upd_ne (by first | assumption | (apply Ne.symm; assumption))).trans ?_)); (try (first | assumption | exact upd_same))), trivial, bdF⟩⟩, wff⟩ (fun x o e => ?_) fun x m => ?_
        · simp only [List.nodup_cons, List.mem_cons, List.not_mem_nil, or_false, not_or]
          refine ⟨⟨n1, n2, cb4, bs7, n5⟩, ⟨n6, Ne.symm n4k, m1, n9⟩, ⟨Ne.symm n4l, m2, n12⟩, ⟨m3, n4c⟩, Ne.symm m4, not_false, List.nodup_nil⟩
        · have xb : x ≠ b := ne_of_none e f1
          have xs7 : x ≠ s7 := ne_of_none e f7
          rw [upd_ne xb, upd_ne xs7, upd_ne xb]
          exact s6 _ _ e
        · simp only [List.mem_cons, List.not_mem_nil, or_false] at m
          rcases m with rfl | rfl | rfl | rfl | rfl | rfl
          · exact f1
          · exact f2
          · exact f3
          · exact f4
          · exact f7
          · exact f6
end
end K50

namespace K50
open PySem PySem.Spec PyProof.Rows L2
local macro_rules | `(tactic| array_mem_dec) => `(tactic| first | with_reducible assumption | with_reducible exact upd_same | ((with_reducible apply same_at); (with_reducible assumption); array_mem_dec) | ((with_reducible apply upd_atN); (with_reducible assumption); array_mem_dec) | ((with_reducible apply upd_at); (first | with_reducible assumption | (apply Ne.symm; with_reducible assumption)); array_mem_dec))
local macro_rules | `(tactic| array_get_dec) => `(tactic| first | (with_reducible refine w_seq ?_) | (with_reducible refine w_asg ?_) | (with_reducible refine w_drop ?_) | (with_reducible refine w_ret ?_) | (with_reducible refine w_retN ?_) | (with_reducible refine w_next ?_) | (with_reducible refine w_break ?_) | (with_reducible refine w_cont ?_) | (with_reducible refine w_ifS ?_) | (with_reducible refine w_sub ?_) | (with_reducible refine w_c ?_) | (with_reducible refine w_op ?_) | (with_reducible refine w_un ?_) | (with_reducible refine w_test ?_) | (with_reducible refine w_B ?_) | (with_reducible refine w_yes ?_) | (with_reducible refine w_not ?_) | (with_reducible refine w_and ?_) | (with_reducible refine w_or ?_) | (with_reducible refine w_andV ?_) | (with_reducible refine w_orV ?_) | (with_reducible refine w_notV ?_) | (with_reducible refine w_ifE ?_) | (with_reducible refine w_nil ?_) | (with_reducible refine w_cons ?_) | (with_reducible refine w_call ?_) | (with_reducible refine w_callS ?_) | (with_reducible refine w_cB ?_) | (with_reducible refine w_lst ?_) | (with_reducible refine w_tup ?_) | (with_reducible refine w_sl ?_) | (with_reducible refine w_noPart ?_) | (with_reducible refine w_part ?_) | (with_reducible refine w_bm ?_) | (with_reducible refine w_bm0 ?_) | (with_reducible refine w_strTy ?_) | (with_reducible refine w_bl ?_) | (with_reducible refine w_int1 ?_) | (with_reducible refine w_str1 ?_) | (with_reducible refine w_rI0 ?_) | (with_reducible refine w_rU ?_) | (with_reducible refine w_eqI ?_) | (with_reducible refine w_eqS ?_) | (with_reducible refine w_neI ?_) | (with_reducible refine w_neS ?_) | (with_reducible refine w_bl2 ?_) | (with_reducible refine w_isN ?_) | (with_reducible refine w_for ?_) | (with_reducible refine w_iRng1 ?_) | (with_reducible refine w_iRng2 ?_) | (with_reducible refine w_iList ?_) | (with_reducible refine w_iTup ?_) | (with_reducible refine w_iStr ?_) | (with_reducible refine w_lc ?_) | (with_reducible refine w_M1 ?_) | (with_reducible refine w_M0 ?_) | (with_reducible refine w_isS ?_) | ((with_reducible apply w_name); (simp only [wipe, List.map_cons, List.map_nil, List.foldl_cons, List.foldl_nil, List.set_cons_zero, List.set_cons_succ]; exact rfl)) | ((with_reducible apply w_var); exact rfl) | ((with_reducible apply w_lstTy); array_mem_dec) | ((with_reducible apply w_lenL); array_mem_dec) | ((with_reducible apply w_lenT); array_mem_dec) | ((with_reducible apply w_listOf); array_mem_dec) | ((with_reducible apply w_lenS); (first | (with_reducible assumption) | omega | (rw [sizeLine_eq]; omega))) | ((with_reducible apply w_slS); (first | (with_reducible assumption) | omega | (rw [sizeLine_eq]; omega))) | ((with_reducible apply w_wipe); exact rfl) | ((with_reducible apply w_acc); array_mem_dec; (try (first | (with_reducible assumption) | omega | (rw [sizeLine_eq]; omega)))) | ((with_reducible apply w_itl); array_mem_dec) | ((with_reducible apply w_itt); array_mem_dec) | ((with_reducible apply w_append); array_mem_dec; (try (first | (with_reducible assumption) | omega | (rw [sizeLine_eq]; omega)))) | ((with_reducible apply w_rng1); (first | (with_reducible assumption) | omega); (first | (with_reducible assumption) | omega)) | ((with_reducible apply w_ixL); array_mem_dec; (first | (with_reducible assumption) | exact rfl | (apply atI_nat; (with_reducible assumption)) | exact atI_last _ _)) | ((with_reducible apply w_ixT); array_mem_dec; (first | (with_reducible assumption) | exact rfl | (apply atI_nat; (with_reducible assumption)) | exact atI_last _ _)) | ((with_reducible apply w_iT); first | exact rfl | (with_reducible assumption)) | ((with_reducible apply w_iF); first | exact rfl | (with_reducible assumption)) | ((with_reducible apply w_isiI (b := true)); decide +kernel) | ((with_reducible apply w_isiI (b := false)); decide +kernel) | ((with_reducible apply w_isiB (b := true)); decide +kernel) | ((with_reducible apply w_isiB (b := false)); decide +kernel) | ((with_reducible apply w_isiS (b := true)); decide +kernel) | ((with_reducible apply w_isiS (b := false)); decide +kernel) | ((with_reducible apply w_isiN (b := true)); decide +kernel) | ((with_reducible apply w_isiN (b := false)); decide +kernel) | ((with_reducible apply w_isiL (b := true)); array_mem_dec; decide +kernel) | ((with_reducible apply w_isiL (b := false)); array_mem_dec; decide +kernel) | ((with_reducible apply w_isiT (b := true)); array_mem_dec; decide +kernel) | ((with_reducible apply w_isiT (b := false)); array_mem_dec; decide +kernel) | (with_reducible refine w_notT ?_) | (with_reducible refine w_chain ?_) | ((with_reducible apply w_trL); array_mem_dec) | ((with_reducible apply w_gTup); array_mem_dec; exact rfl) | ((with_reducible apply w_gLst); array_mem_dec; exact rfl) | (with_reducible refine w_gCons ?_) | (with_reducible refine w_gNil ?_) | (with_reducible refine w_Fld ?_) | (with_reducible refine w_sFld ?_) | (with_reducible refine w_dget ?_) | (with_reducible refine w_dIn ?_) | (with_reducible refine w_dNotIn ?_) | (with_reducible refine w_sDPut ?_) | (with_reducible refine w_dnewK ?_) | (with_reducible refine w_meth ?_) | (with_reducible refine w_make ?_) | (with_reducible refine w_methS ?_) | (with_reducible refine w_makeS ?_) | (with_reducible refine w_dpop ?_) | ((with_reducible apply w_fld1); array_mem_dec; (with_reducible assumption); (with_reducible assumption); exact rfl) | ((with_reducible apply w_sfld1); array_mem_dec; (with_reducible assumption); (with_reducible assumption); exact Nat.le_of_ble_eq_true rfl) | ((with_reducible apply w_meth1); array_mem_dec; exact rfl) | ((with_reducible apply w_dgetS); array_mem_dec; (with_reducible assumption)) | ((with_reducible apply w_dgetI); array_mem_dec; (with_reducible assumption)) | ((with_reducible apply w_dinS); array_mem_dec) | ((with_reducible apply w_dputI); array_mem_dec; (try (first | (with_reducible assumption) | omega | (rw [sizeLine_eq]; omega)))) | ((with_reducible apply w_dputS); array_mem_dec; (try (first | (with_reducible assumption) | omega | (rw [sizeLine_eq]; omega)))) | ((with_reducible apply w_isD); array_mem_dec) | ((with_reducible apply w_dictD); array_mem_dec) | ((with_reducible apply w_dpopS); array_mem_dec; (with_reducible assumption)) | ((with_reducible apply w_setL); array_mem_dec; exact rfl) | ((with_reducible apply w_cat); array_mem_dec; array_mem_dec; (try (first | (with_reducible assumption) | omega | (rw [sizeLine_eq]; omega)))) | (with_reducible refine w_iKeys ?_) | (with_reducible refine w_dget2 ?_) | (with_reducible refine w_scX ?_) | ((with_reducible apply w_keysF); array_mem_dec) | ((with_reducible apply w_dgetSF); array_mem_dec; (with_reducible assumption)))
/-! ### nothing lost, all lost, alike -/
theorem okL_Disk_cut_off {P : Program} {w : World} {K : PySem.W.Frag} {mg : Str → Option Value} {base : Heap} (M : Nms K mg) : FnOk P w K mg base CX0 4 M.a_Disk_cut_off M.d_Disk_cut_off ["self", "changes", "tears"] (fun vs H Q _ => ∃ (a : Addr) (fp : List Addr) (D : DS) (ch : IB) (c : Addr) (ts : List Addr) (trs : List Tear), vs = [.ref a, vIB ch, .ref c] ∧ DiskAt M.CD H a fp D ∧ H c = some (.lst (ts.map V.ref)) ∧ TeAt H ts trs ∧ trs.length < 64 ∧ c ∉ fp ∧
  (∀ t ∈ trs, ∀ k ∈ nameT t, k < 1114112) ∧ okTears D ch trs ∧ ∀ k, inIB D.ch.length ch = some k → bd (foundD D k (toldD D trs)) ∧ ∀ b H' fp', DiskAt M.CD H' b fp' (foundD D k (toldD D trs)) → Same H H' → (∀ c ∈ fp', H c = none) → Q (.ref b) H') :=
  ok_low (ok_Disk_cut_off M) fun vs H Q E ⟨a, fp, D, ch, c, ts, trs, e, dk, hc, te, h60, ncf, na, okt, q⟩ => ⟨a, fp, D, ch, c, ts, trs, e, dk, hc, te, h60, ncf, na, fun _ => q, fun z => absurd okt z⟩
def lateN (D : DS) : List Tx := (srt (D.names.map (·.1))).filter fun x => decide (lateD D ((getA D.names x).getD 0) ≠ [])
def allT (D : DS) : List Tear := (lateN D).map fun x => .three x (((lateD D ((getA D.names x).getD 0)).length : Nat) : Int) (.bl false)
theorem srt_nd {l : List Tx} (h : l.Nodup) : (srt l).Nodup := (srt_perm l).nodup_iff.mpr h
theorem lateN_mem {D : DS} {x : Tx} (h : x ∈ lateN D) : ∃ i, getA D.names x = some i := by
  have := (List.mem_filter.mp h).1
  exact Option.isSome_iff_exists.mp (getA_has.mpr ((srt_perm _).mem_iff.mp this))
theorem inIB_all {n : Nat} : inIB n (.int (n : Int)) = some n := by
  show (if 0 ≤ (n : Int) ∧ (n : Int) ≤ (n : Int) then some (n : Int).toNat else none) = some n
  rw [if_pos ⟨by omega, by omega⟩, Int.toNat_natCast]
theorem allT_ok {D : DS} (w : wf D) : okTears D (.int (D.ch.length : Int)) (allT D) := by
  have nms : (allT D).map nameT = lateN D := by
    unfold allT
    rw [List.map_map]
    exact (List.map_congr_left fun x _ => rfl).trans (List.map_id' _)
  refine ⟨by rw [inIB_all]; rfl, fun t m => ?_, ?_, fun t m => ?_⟩
  · obtain ⟨x, _, rfl⟩ := List.mem_map.mp m
    rfl
  · rw [nms]
    exact ⟨List.Sublist.nodup List.filter_sublist (srt_nd w.ndN), List.Pairwise.sublist List.filter_sublist (srt_pair _)⟩
  · obtain ⟨x, hx, rfl⟩ := List.mem_map.mp m
    obtain ⟨i, hi⟩ := lateN_mem hx
    refine ⟨⟨i, hi, ?_⟩, false, rfl, fun z => by cases z.1⟩
    rw [hi]
    show (inIB (lateD D i).length (.int ((lateD D i).length : Int))).isSome = true
    rw [inIB_all]; rfl
section
variable {P : Program} {w : World} {K : PySem.W.Frag} {mg : Str → Option Value} {base : Heap}
theorem ok_nothing_lost (M : Nms K mg) : FnOk P w K mg base CX0 5 M.a_nothing_lost M.d_nothing_lost ["disk"] (fun vs H Q _ => ∃ a fp D, vs = [.ref a] ∧ DiskAt M.CD H a fp D ∧ bd (foundD D D.ch.length (toldD D (allT D))) ∧ ∀ b H' fp', DiskAt M.CD H' b fp' (foundD D D.ch.length (toldD D (allT D))) → Same H H' → (∀ c ∈ fp', H c = none) → Q (.ref b) H') := by
  refine M.F_nothing_lost.ok sc_nothing_lost (fun vs H Q E h => ?_) (fun cdv A outer s H vs Q E hr h => ?_)
  · obtain ⟨a, fp, D, rfl, _⟩ := h
    rfl
  · have hu := hu1 hr
    have clD := M.clD
    have nD_kept := M.nD_kept
    have nD_late := M.nD_late
    have nD_names := M.nD_names
    have nD_sure := M.nD_sure
    have nD_changes := M.nD_changes
    have nD_next := M.nD_next
    refine ⟨_, (pss_cons (ps_setLc (i := 1) (own := [("name", 2)]) rfl sc_nothing_lost.nd rfl rfl (sw_true rfl rfl rfl (by decide +kernel)) (pi_list (pe_meth0 (pv 0) M.clD M.m_Disk_late_files (ok_Disk_late_files M) (hr.mono (by decide)) M.b_Disk_late_files .nil pass0)) (blkOk_by (N := ["disk", "tears", "name"]) (sc := defScope s_nothing_lost) (own := [("name", 2)]) (by decide +kernel)) (fun _ _ _ _ _ => (pg_name (i := 2) sc_nothing_lost.nd rfl (Or.inl rfl))) (fun _ _ _ _ _ => pts_nil) (fun _ _ _ _ _ => (pe_tup (pa_cons (pv 2) (pa_cons (pe_meth (pv 0) M.clD M.m_Disk_late_size (okL_Disk_late_size M) (hr.mono (by decide)) M.b_Disk_late_size .nil pass0 (pa_cons (pv 2) pa_nil)) (pa_cons pe_bl pa_nil))))))
    (pss_one (ps_ret (pe_meth (pv 0) M.clD M.m_Disk_cut_off (okL_Disk_cut_off M) (hr.mono (by decide)) M.b_Disk_cut_off .nil pass0 (pa_cons (pe_meth0 (pv 0) M.clD M.m_Disk_late_changes (ok_Disk_late_changes M) (hr.mono (by decide)) M.b_Disk_late_changes .nil pass0) (pa_cons (pv 1) pa_nil)))))), ?_⟩
    try dsimp only [cxOf, Cx.nox]
    obtain ⟨a, fp, D, rfl, dk, bdF, q⟩ := h
    obtain ⟨⟨k0, l0, n0, sa0, c0, ts0, efp, ⟨nd0, ⟨dx0, hi⟩, hk, hl, hn, hs, hch0, tp, sm⟩⟩, wfd⟩ := id dk
    refine w_start (σ' := [some (.ref a), none, none]) rfl ?_
    (repeat array_get_dec)
    refine ⟨a, fp, D, rfl, dk, fun p H1 s1 hp h1 => ?_⟩
    have h1' : H1 p = some (.lst ((lateN D).map sv)) := h1
    (repeat array_get_dec)
    intro A2 hA2
    have ll : (lateN D).length < 64 := by
      have := List.length_filter_le (fun x => decide (lateD D ((getA D.names x).getD 0) ≠ [])) (srt (D.names.map (·.1)))
      have e : (srt (D.names.map (·.1))).length = D.names.length := by rw [(srt_perm _).length_eq, List.length_map]
      have := sm.names
      unfold lateN
      omega
    have pA : A2 ≠ p := fun z => by rw [z, h1] at hA2; cases hA2
    refine lc_list (K := K) (a := p) (xs := (lateN D).map sv) (fun i H' => (∃ ts : List Addr, H' A2 = some (.lst (ts.map V.ref)) ∧ TeAt H' ts ((allT D).take i)) ∧ ∀ b o, b ≠ A2 → H1 b = some o → H' b = some o) ⟨⟨[], upd_same, trivial⟩, fun b o nb e => by rw [upd_ne nb]; exact e⟩ ?_ ?_ ?_
    · rintro i H' _ ⟨_, h4⟩
      exact SqL.of (h4 _ _ (Ne.symm pA) h1')
    · rintro i v H' hv ⟨⟨ts, h3, te⟩, h4⟩
      obtain ⟨x, hx, rfl⟩ := getE_map hv
      obtain ⟨j, hj⟩ := lateN_mem (List.mem_of_getElem? hx)
      have s4 : Same H H' := fun b o e => h4 b o (fun z => by rw [z] at e; rw [s1 _ _ e] at hA2; cases hA2) (s1 _ _ e)
      have hi4 := s4 _ _ hi
      have ltt : ts.length ≤ 64 := by
        rw [te.len, List.length_take]
        unfold allT
        rw [List.length_map]
        omega
      have lz : (ts.map V.ref).length < sizeLine := by rw [List.length_map, sizeLine_eq]; omega
      (repeat array_get_dec)
      refine ⟨a, fp, D, x, j, rfl, dk.same s4, hj, ?_⟩
      (repeat array_get_dec)
      refine ⟨by show 3 ≤ sizeLine; decide, fun t ht => ?_⟩
      have h3' := upd_atN (o := .tup [sv x, .int ((lateD D j).length : Int), .bl false]) ht h3
      (repeat array_get_dec)
      have nt : t ≠ A2 := Ne.symm (ne_of_none h3 ht)
      refine ⟨⟨ts ++ [t], by rw [upd_same, List.map_append]; rfl, ?_⟩, fun b o nb e => by rw [upd_ne nb]; exact upd_atN ht (h4 b o nb e)⟩
      have ea : (allT D)[i]? = some (.three x ((lateD D j).length : Int) (.bl false)) := by
        unfold allT
        rw [List.getElem?_map, hx]
        show some (Tear.three x _ _) = _
        rw [hj]
        rfl
      rw [take_one ea]
      refine TeAt.snoc (te.keep fun u xs e => ?_) ?_
      · rw [upd_ne fun z => by rw [z, h3] at e; cases e]
        exact upd_atN ht e
      · rw [upd_ne nt, upd_same]
        rfl
    · rintro H' ⟨⟨ts, h3, te⟩, h4⟩
      have s4 : Same H H' := fun b o e => h4 b o (fun z => by rw [z] at e; rw [s1 _ _ e] at hA2; cases hA2) (s1 _ _ e)
      have hi4 := s4 _ _ hi
      have at2 : (allT D).take ((lateN D).map sv).length = allT D := List.take_of_length_le (by unfold allT; rw [List.length_map, List.length_map]; exact Nat.le_refl _)
      rw [at2] at te
      (repeat array_get_dec)
      refine ⟨a, fp, D, rfl, dk.1.same s4, ?_⟩
      (repeat array_get_dec)
      refine ⟨a, fp, D, .int (D.ch.length : Int), A2, ts, allT D, rfl, dk.same s4, h3, te, by unfold allT; rw [List.length_map]; exact ll, fun z => ?_, fun t m k hk => ?_, allT_ok wfd, fun k hk2 => ?_⟩
      · have := dk.1.has A2 z
        cases e : H A2 with
        | none => exact this e
        | some o => rw [s1 _ _ e] at hA2; cases hA2
      · obtain ⟨x, hx, rfl⟩ := List.mem_map.mp m
        obtain ⟨j, hj⟩ := lateN_mem hx
        exact sm.na _ (getA_mem hj) k hk
      · rw [inIB_all] at hk2
        cases hk2
        refine ⟨bdF, fun b H5 fp' dk5 s5 fr5 => ?_⟩
        (repeat array_get_dec)
        refine q b H5 fp' dk5 (fun b o e => s5 _ _ (s4 _ _ e)) fun c m => ?_
        cases e : H c with
        | none => rfl
        | some o => have := fr5 c m; rw [s4 _ _ e] at this; cases this
theorem ok_all_lost (M : Nms K mg) : FnOk P w K mg base CX0 5 M.a_all_lost M.d_all_lost ["disk"] (fun vs H Q _ => ∃ a fp D, vs = [.ref a] ∧ DiskAt M.CD H a fp D ∧ bd (foundD D 0 []) ∧ ∀ b H' fp', DiskAt M.CD H' b fp' (foundD D 0 []) → Same H H' → (∀ c ∈ fp', H c = none) → Q (.ref b) H') := by
  refine M.F_all_lost.ok sc_all_lost (fun vs H Q E h => ?_) (fun cdv A outer s H vs Q E hr h => ?_)
  · obtain ⟨a, fp, D, rfl, _⟩ := h
    rfl
  · have hu := hu1 hr
    have clD := M.clD
    have nD_kept := M.nD_kept
    have nD_late := M.nD_late
    have nD_names := M.nD_names
    have nD_sure := M.nD_sure
    have nD_changes := M.nD_changes
    have nD_next := M.nD_next
    refine ⟨_, (pss_one (ps_ret (pe_meth (pv 0) M.clD M.m_Disk_cut_off (okL_Disk_cut_off M) (hr.mono (by decide)) M.b_Disk_cut_off .nil pass0 (pa_cons pe_int (pa_cons (pe_lst pa_nil) pa_nil))))), ?_⟩
    try dsimp only [cxOf, Cx.nox]
    obtain ⟨a, fp, D, rfl, dk, bdF, q⟩ := h
    obtain ⟨⟨k0, l0, n0, sa0, c0, ts0, efp, ⟨nd0, ⟨dx0, hi⟩, hk, hl, hn, hs, hch0, tp, sm⟩⟩, wfd⟩ := id dk
    refine w_start (σ' := [some (.ref a)]) rfl ?_
    (repeat array_get_dec)
    refine ⟨by show 0 ≤ sizeLine; decide, fun A2 hA2 => ?_⟩
    have s4 : Same H (upd H A2 (.lst [])) := same_upd (Same.refl _) hA2
    (repeat array_get_dec)
    refine ⟨a, fp, D, .int 0, A2, [], [], rfl, dk.same s4, upd_same, trivial, by decide, fun z => dk.1.has A2 z hA2, fun t m => (by cases m), ⟨by show (if (0 : Int) ≤ 0 ∧ (0 : Int) ≤ (D.ch.length : Int) then some (0 : Int).toNat else none).isSome = true; rw [if_pos ⟨by omega, by omega⟩]; rfl, fun t m => (by cases m), ⟨List.nodup_nil, .nil⟩, fun t m => (by cases m)⟩, fun k hk2 => ?_⟩
    have hk3 : (if (0 : Int) ≤ 0 ∧ (0 : Int) ≤ (D.ch.length : Int) then some (0 : Int).toNat else none) = some k := hk2
    rw [if_pos ⟨by omega, by omega⟩] at hk3
    cases hk3
    refine ⟨bdF, fun b H5 fp' dk5 s5 fr5 => ?_⟩
    (repeat array_get_dec)
    refine q b H5 fp' dk5 (fun b o e => s5 _ _ (s4 _ _ e)) fun c m => ?_
    cases e : H c with
    | none => rfl
    | some o => have := fr5 c m; rw [s4 _ _ e] at this; cases this
theorem ok_alike (M : Nms K mg) : FnOk P w K mg base CX0 3 M.a_alike M.d_alike ["one", "other"] (fun vs H Q _ => ∃ a b fp fq D, vs = [.ref a, .ref b] ∧ DiskAt M.CD H a fp D ∧ DiskAt M.CD H b fq D ∧ ∀ H', Same H H' → Q (.bl true) H') := by
  refine M.F_alike.ok sc_alike (fun vs H Q E h => ?_) (fun cdv A outer s H vs Q E hr h => ?_)
  · obtain ⟨a, b, fp, fq, D, rfl, _⟩ := h
    rfl
  · have hu := hu1 hr
    have clD := M.clD
    have nD_kept := M.nD_kept
    have nD_late := M.nD_late
    have nD_names := M.nD_names
    have nD_sure := M.nD_sure
    have nD_changes := M.nD_changes
    have nD_next := M.nD_next
    refine ⟨_, (pss_one (ps_ret (pe_and (pe_cmpR (r := rEqD K) (op_eqD hr.units) (pe_meth0 (pv 0) M.clD M.m_Disk_names (ok_Disk_names M) (hr.mono (by decide)) M.b_Disk_names .nil pass0) (pe_meth0 (pv 1) M.clD M.m_Disk_names (ok_Disk_names M) (hr.mono (by decide)) M.b_Disk_names .nil pass0) (nomark _)) (pe_one (pe_notT (pe_lc (own := [("name", 2)]) rfl sc_alike.nd (pi_list (pe_meth0 (pv 0) M.clD M.m_Disk_names (ok_Disk_names M) (hr.mono (by decide)) M.b_Disk_names .nil pass0)) (blkOk_by (N := ["one", "other", "name"]) (sc := defScope s_alike) (own := [("name", 2)]) (by decide +kernel)) (fun _ _ _ _ _ => (pg_name (i := 2) sc_alike.nd rfl (Or.inl rfl))) (fun _ _ _ _ _ => pts_one (pt_cmpR op_ne (pe_meth (pv 0) M.clD M.m_Disk_read (okL_Disk_read M) (hr.mono (by decide)) M.b_Disk_read .nil pass0 (pa_cons (pv 2) pa_nil)) (pe_meth (pv 1) M.clD M.m_Disk_read (okL_Disk_read M) (hr.mono (by decide)) M.b_Disk_read .nil pass0 (pa_cons (pv 2) pa_nil)) (nomark _))) (fun _ _ _ _ _ => (pv 2)))))))), ?_⟩
    try dsimp only [cxOf, Cx.nox]
    obtain ⟨a, b, fp, fq, D, rfl, dk, dj, q⟩ := h
    obtain ⟨⟨k0, l0, n0, sa0, c0, ts0, efp, ⟨nd0, ⟨dx0, hi⟩, hk, hl, hn, hs, hch0, tp, sm⟩⟩, wfd⟩ := id dk
    obtain ⟨⟨k1, l1, n1, sa1, c1, ts1, efq, ⟨nd1, ⟨dx1, gi⟩, _⟩⟩, _⟩ := id dj
    have nmOk : ∀ x ∈ srt (D.names.map (·.1)), ∀ c ∈ x, c < 1114112 := fun x m => by
      obtain ⟨p, hp, rfl⟩ := List.mem_map.mp ((srt_perm _).mem_iff.mp m)
      exact sm.na p hp
    refine w_start (σ' := [some (.ref a), some (.ref b), none]) rfl ?_
    (repeat array_get_dec)
    refine ⟨a, fp, D, rfl, dk.1, fun p hp => ?_⟩
    have s1 : Same H (upd H p (.lst ((srt (D.names.map (·.1))).map sv))) := same_upd (Same.refl _) hp
    (repeat array_get_dec)
    refine ⟨b, fq, D, rfl, dj.1.same s1, fun p2 hp2 => ?_⟩
    have s2 := same_upd (o := .lst ((srt (D.names.map (·.1))).map sv)) s1 hp2
    refine w_eqT (l := srt (D.names.map (·.1))) (m := srt (D.names.map (·.1))) (upd_atN hp2 upd_same) upd_same nmOk nmOk ?_
    rw [decide_eq_true rfl]
    have hi2 := s2 _ _ hi
    have gi2 := s2 _ _ gi
    have dk2 := dk.same s2
    have dj2 := dj.same s2
    generalize upd (upd H p (.lst ((srt (D.names.map (·.1))).map sv))) p2 (.lst ((srt (D.names.map (·.1))).map sv)) = H2 at *
    (repeat array_get_dec)
    refine ⟨a, fp, D, rfl, dk2.1, fun p3 hp3 => ?_⟩
    have s3 : Same H2 (upd H2 p3 (.lst ((srt (D.names.map (·.1))).map sv))) := same_upd (Same.refl _) hp3
    (repeat array_get_dec)
    intro A2 hA2
    refine lc_list (K := K) (a := p3) (xs := (srt (D.names.map (·.1))).map sv) (fun i H' => H' A2 = some (.lst []) ∧ ∀ b o, b ≠ A2 → upd H2 p3 (.lst ((srt (D.names.map (·.1))).map sv)) b = some o → H' b = some o) ⟨upd_same, fun b o nb e => by rw [upd_ne nb]; exact e⟩ ?_ ?_ ?_
    · rintro i H' _ ⟨_, h4⟩
      exact SqL.of (h4 _ _ (ne_of_none upd_same hA2) upd_same)
    · rintro i v H' hv ⟨h3, h4⟩
      obtain ⟨x, hx, rfl⟩ := getE_map hv
      have mx : x ∈ D.names.map (·.1) := (srt_perm _).mem_iff.mp (List.mem_of_getElem? hx)
      obtain ⟨j, hj⟩ := Option.isSome_iff_exists.mp (getA_has.mpr mx)
      have s4 : Same H2 H' := fun b o e => upd_atS hA2 h4 b o (s3 _ _ e)
      have hi4 := s4 _ _ hi2
      have gi4 := s4 _ _ gi2
      (repeat array_get_dec)
      refine ⟨a, fp, D, x, j, rfl, dk2.same s4, hj, ?_⟩
      (repeat array_get_dec)
      refine ⟨b, fq, D, x, j, rfl, dj2.same s4, hj, ?_⟩
      (repeat array_get_dec)
      refine iteF' (ne_self _) ?_
      exact ⟨h3, h4⟩
    · rintro H' ⟨h3, h4⟩
      (repeat array_get_dec)
      exact q _ fun b o e => upd_atS hA2 h4 b o (s3 _ _ (s2 _ _ e))
end
end K50

namespace K50
open PySem PySem.Spec PyProof.Rows L2
local macro_rules | `(tactic| array_mem_dec) => `(tactic| first | with_reducible assumption | with_reducible exact upd_same | ((with_reducible apply same_at); (with_reducible assumption); array_mem_dec) | ((with_reducible apply upd_atN); (with_reducible assumption); array_mem_dec) | ((with_reducible apply upd_at); (first | with_reducible assumption | (apply Ne.symm; with_reducible assumption)); array_mem_dec))
local macro_rules | `(tactic| array_get_dec) => `(tactic| first | (with_reducible refine w_seq ?_) | (with_reducible refine w_asg ?_) | (with_reducible refine w_drop ?_) | (with_reducible refine w_ret ?_) | (with_reducible refine w_retN ?_) | (with_reducible refine w_next ?_) | (with_reducible refine w_break ?_) | (with_reducible refine w_cont ?_) | (with_reducible refine w_ifS ?_) | (with_reducible refine w_sub ?_) | (with_reducible refine w_c ?_) | (with_reducible refine w_op ?_) | (with_reducible refine w_un ?_) | (with_reducible refine w_test ?_) | (with_reducible refine w_B ?_) | (with_reducible refine w_yes ?_) | (with_reducible refine w_not ?_) | (with_reducible refine w_and ?_) | (with_reducible refine w_or ?_) | (with_reducible refine w_andV ?_) | (with_reducible refine w_orV ?_) | (with_reducible refine w_notV ?_) | (with_reducible refine w_ifE ?_) | (with_reducible refine w_nil ?_) | (with_reducible refine w_cons ?_) | (with_reducible refine w_call ?_) | (with_reducible refine w_callS ?_) | (with_reducible refine w_cB ?_) | (with_reducible refine w_lst ?_) | (with_reducible refine w_tup ?_) | (with_reducible refine w_sl ?_) | (with_reducible refine w_noPart ?_) | (with_reducible refine w_part ?_) | (with_reducible refine w_bm ?_) | (with_reducible refine w_bm0 ?_) | (with_reducible refine w_strTy ?_) | (with_reducible refine w_bl ?_) | (with_reducible refine w_int1 ?_) | (with_reducible refine w_str1 ?_) | (with_reducible refine w_rI0 ?_) | (with_reducible refine w_rU ?_) | (with_reducible refine w_eqI ?_) | (with_reducible refine w_eqS ?_) | (with_reducible refine w_neI ?_) | (with_reducible refine w_neS ?_) | (with_reducible refine w_bl2 ?_) | (with_reducible refine w_isN ?_) | (with_reducible refine w_for ?_) | (with_reducible refine w_iRng1 ?_) | (with_reducible refine w_iRng2 ?_) | (with_reducible refine w_iList ?_) | (with_reducible refine w_iTup ?_) | (with_reducible refine w_iStr ?_) | (with_reducible refine w_lc ?_) | (with_reducible refine w_M1 ?_) | (with_reducible refine w_M0 ?_) | (with_reducible refine w_isS ?_) | ((with_reducible apply w_name); (simp only [wipe, List.map_cons, List.map_nil, List.foldl_cons, List.foldl_nil, List.set_cons_zero, List.set_cons_succ]; exact rfl)) | ((with_reducible apply w_var); exact rfl) | ((with_reducible apply w_lstTy); array_mem_dec) | ((with_reducible apply w_lenL); array_mem_dec) | ((with_reducible apply w_lenT); array_mem_dec) | ((with_reducible apply w_listOf); array_mem_dec) | ((with_reducible apply w_lenS); (first | (with_reducible assumption) | omega | (rw [sizeLine_eq]; omega))) | ((with_reducible apply w_slS); (first | (with_reducible assumption) | omega | (rw [sizeLine_eq]; omega))) | ((with_reducible apply w_wipe); exact rfl) | ((with_reducible apply w_acc); array_mem_dec; (try (first | (with_reducible assumption) | omega | (rw [sizeLine_eq]; omega)))) | ((with_reducible apply w_itl); array_mem_dec) | ((with_reducible apply w_itt); array_mem_dec) | ((with_reducible apply w_append); array_mem_dec; (try (first | (with_reducible assumption) | omega | (rw [sizeLine_eq]; omega)))) | ((with_reducible apply w_rng1); (first | (with_reducible assumption) | omega); (first | (with_reducible assumption) | omega)) | ((with_reducible apply w_ixL); array_mem_dec; (first | (with_reducible assumption) | exact rfl | (apply atI_nat; (with_reducible assumption)) | exact atI_last _ _)) | ((with_reducible apply w_ixT); array_mem_dec; (first | (with_reducible assumption) | exact rfl | (apply atI_nat; (with_reducible assumption)) | exact atI_last _ _)) | ((with_reducible apply w_iT); first | exact rfl | (with_reducible assumption)) | ((with_reducible apply w_iF); first | exact rfl | (with_reducible assumption)) | ((with_reducible apply w_isiI (b := true)); decide +kernel) | ((with_reducible apply w_isiI (b := false)); decide +kernel) | ((with_reducible apply w_isiB (b := true)); decide +kernel) | ((with_reducible apply w_isiB (b := false)); decide +kernel) | ((with_reducible apply w_isiS (b := true)); decide +kernel) | ((with_reducible apply w_isiS (b := false)); decide +kernel) | ((with_reducible apply w_isiN (b := true)); decide +kernel) | ((with_reducible apply w_isiN (b := false)); decide +kernel) | ((with_reducible apply w_isiL (b := true)); array_mem_dec; decide +kernel) | ((with_reducible apply w_isiL (b := false)); array_mem_dec; decide +kernel) | ((with_reducible apply w_isiT (b := true)); array_mem_dec; decide +kernel) | ((with_reducible apply w_isiT (b := false)); array_mem_dec; decide +kernel) | (with_reducible refine w_notT ?_) | (with_reducible refine w_chain ?_) | ((with_reducible apply w_trL); array_mem_dec) | ((with_reducible apply w_gTup); array_mem_dec; exact rfl) | ((with_reducible apply w_gLst); array_mem_dec; exact rfl) | (with_reducible refine w_gCons ?_) | (with_reducible refine w_gNil ?_) | (with_reducible refine w_Fld ?_) | (with_reducible refine w_sFld ?_) | (with_reducible refine w_dget ?_) | (with_reducible refine w_dIn ?_) | (with_reducible refine w_dNotIn ?_) | (with_reducible refine w_sDPut ?_) | (with_reducible refine w_dnewK ?_) | (with_reducible refine w_meth ?_) | (with_reducible refine w_make ?_) | (with_reducible refine w_methS ?_) | (with_reducible refine w_makeS ?_) | (with_reducible refine w_dpop ?_) | ((with_reducible apply w_fld1); array_mem_dec; (with_reducible assumption); (with_reducible assumption); exact rfl) | ((with_reducible apply w_sfld1); array_mem_dec; (with_reducible assumption); (with_reducible assumption); exact Nat.le_of_ble_eq_true rfl) | ((with_reducible apply w_meth1); array_mem_dec; exact rfl) | ((with_reducible apply w_dgetS); array_mem_dec; (with_reducible assumption)) | ((with_reducible apply w_dgetI); array_mem_dec; (with_reducible assumption)) | ((with_reducible apply w_dinS); array_mem_dec) | ((with_reducible apply w_dputI); array_mem_dec; (try (first | (with_reducible assumption) | omega | (rw [sizeLine_eq]; omega)))) | ((with_reducible apply w_dputS); array_mem_dec; (try (first | (with_reducible assumption) | omega | (rw [sizeLine_eq]; omega)))) | ((with_reducible apply w_isD); array_mem_dec) | ((with_reducible apply w_dictD); array_mem_dec) | ((with_reducible apply w_dpopS); array_mem_dec; (with_reducible assumption)) | ((with_reducible apply w_setL); array_mem_dec; exact rfl) | ((with_reducible apply w_cat); array_mem_dec; array_mem_dec; (try (first | (with_reducible assumption) | omega | (rw [sizeLine_eq]; omega)))) | (with_reducible refine w_iKeys ?_) | (with_reducible refine w_dget2 ?_) | (with_reducible refine w_scX ?_) | ((with_reducible apply w_keysF); array_mem_dec) | ((with_reducible apply w_dgetSF); array_mem_dec; (with_reducible assumption)))
/-! ### the refusal of a caught exception -/
section
variable {P : Program} {w : World} {K : PySem.W.Frag} {mg : Str → Option Value} {base : Heap}
theorem w_isE {D a : Addr} {c : V} {cv : Value} {b : Bool} {H : Hp} {Q : VK} (h : ∀ u, RelV c u → u = cv) (k : PySem.W.kitOne K (.ref D) cv = some b) (q : Q (.bl b) H) : rIsE K D a [.ref a, c] H Q := ⟨c, cv, b, rfl, h, k, q⟩
theorem fn_refusal (M : Nms K mg) {C : Addr} {bN bP : Bool} (Y : CatchT K mg M.CE C) (kN : PySem.W.kitOne K (.ref C) (.ref M.CP) = some bN) (kP : PySem.W.kitOne K (.ref C) (.ref M.CU) = some bP) (one : bP = !bN) :
    FnE P w K mg base C 1 M.a__law_refusal M.d__law_refusal ["problem"] (.str (if bN = true then Str.ofString "paper" else Str.ofString "unknown")) := by
  refine fnE_of M.F__law_refusal sc__law_refusal rfl fun cd A outer z G Q p hot zc room q => ?_
  have hotc : L2H.HotC (L2H.cxH CX0 P w K mg base ["problem", "kinds", "found", "k"] "_law_refusal" (defScope s__law_refusal) M.a__law_refusal cd A outer z G E0 p) := ⟨p, hot, List.mem_singleton_self _⟩
  have fl : ∃ vs, p.2.data = .fields vs := by obtain ⟨_, vs, e, _⟩ := hot; exact ⟨vs, e⟩
  refine ⟨_, (pss_cons (ps_set (i := 1) sc__law_refusal.nd rfl (Or.inr rfl) (pe_lst (pa_cons (pe_callB (call_isP Y.ec zc fl (List.mem_singleton_self _)) (by rfl) M.T.b_isinstance (by decide +kernel) (pa_cons (pv 0) (pa_cons (pe_glob (v := .ref M.CP) rfl M.XP.gP rfl) pa_nil))) (pa_cons (pe_callB (call_isP Y.ec zc fl (List.mem_singleton_self _)) (by rfl) M.T.b_isinstance (by decide +kernel) (pa_cons (pv 0) (pa_cons (pe_glob (v := .ref M.CU) rfl M.XU.gP rfl) pa_nil))) pa_nil)))) (pss_cons (ps_hotLc (i := 2) (own := [("k", 3)])  hotc sc__law_refusal.nd rfl rfl (sw_true rfl rfl rfl (by decide +kernel)) (L2H.pi_range1H (by rfl) M.T.b_range (pa_cons pe_int pa_nil)) (blkOk_by (N := ["problem", "kinds", "found", "k"]) (sc := defScope s__law_refusal) (own := [("k", 3)]) (by decide +kernel)) (fun _ _ _ _ _ => (pg_name (i := 3) sc__law_refusal.nd rfl (Or.inl rfl))) (fun _ _ _ _ _ => pts_one (pt_val (pe_ix (r := rIxL K) ix_list (pv 1) (pv 3) (fun _ _ => rfl)))) (fun _ _ _ _ _ => (pe_ix (r := rIxL K) ix_list (pe_lst (pa_cons pe_str (pa_cons pe_str pa_nil))) (pv 3) (fun _ _ => rfl)))) (pss_one (ps_ret (pe_ifExp (PW.pt (pw_and (pt_cmpR op_eq (pe_callB (id := "len") (r := fun xs H Q => ∃ x n, xs = [x] ∧ LenV K x H n ∧ Q (V.int ((n : Nat) : Int)) H) call_len (by rfl) M.T.b_len (by decide +kernel) (pa_cons (pv 2) pa_nil)) pe_int (nomark _)) (pw_and1 (pt_val (pe_callB (call_isP Y.ec zc fl (List.mem_singleton_self _)) (by rfl) M.T.b_isinstance (by decide +kernel) (pa_cons (pv 0) (pa_cons (pe_bltn (v := .ty "ValueError") (u := .type "ValueError") (by rfl) M.T.b_ValueError (by decide +kernel) rfl) pa_nil))))))) (pe_ix (r := rIxL K) ix_list (pv 2) pe_int (fun _ _ => rfl)) pe_str))))), ?_⟩
  have hP : PySem.W.kitOne K (.ref C) (.ref M.CU) = some (!bN) := by rw [← one]; exact kP
  refine w_start (σ' := [some (.ref p.1), none, none, none]) rfl ?_
  (repeat array_get_dec)
  refine w_isE (fun u r => r) kN ?_
  (repeat array_get_dec)
  refine w_isE (fun u r => r) hP ?_
  (repeat array_get_dec)
  refine ⟨by show 2 ≤ sizeLine; decide, fun kq hkq => ?_⟩
  have s0 := same_upd (o := .lst [.bl bN, .bl (!bN)]) (Same.refl G) hkq
  (repeat array_get_dec)
  intro A hA
  have a0 : atI [V.bl bN, V.bl (!bN)] ((0 : Nat) : Int) = some (.bl bN) := atI_nat (j := 0) rfl
  have a1 : atI [V.bl bN, V.bl (!bN)] ((1 : Nat) : Int) = some (.bl (!bN)) := atI_nat (j := 1) rfl
  refine lc_range (fun i H' => H' A = some (.lst (if i = 0 then [] else if i = 1 then (if bN = true then [.str (Str.ofString "paper")] else []) else [.str (if bN = true then Str.ofString "paper" else Str.ofString "unknown")])) ∧ ∀ b o, b ≠ A → upd G kq (.lst [.bl bN, .bl (!bN)]) b = some o → H' b = some o) ⟨upd_same, fun b o nb e => by rw [upd_ne nb]; exact e⟩ ?_ ?_
  · rintro i H' hi ⟨h1, h2⟩
    have hk : H' kq = some (.lst [.bl bN, .bl (!bN)]) := h2 _ _ (ne_of_none upd_same hA) upd_same
    rw [Int.zero_add]
    have hi' : i < 2 := hi
    have w0 : atI [V.str (Str.ofString "paper"), V.str (Str.ofString "unknown")] ((0 : Nat) : Int) = some (.str (Str.ofString "paper")) := atI_nat (j := 0) rfl
    have w1 : atI [V.str (Str.ofString "paper"), V.str (Str.ofString "unknown")] ((1 : Nat) : Int) = some (.str (Str.ofString "unknown")) := atI_nat (j := 1) rfl
    match i, hi' with
    | 0, _ =>
      rw [if_pos rfl] at h1
      have lz : ([] : List V).length < sizeLine := by rw [sizeLine_eq]; decide
      (repeat array_get_dec)
      refine ite2 (fun hb => ?_) (fun hb => ?_)
      · (repeat array_get_dec)
        refine ⟨by show 2 ≤ sizeLine; decide, fun l hl => ?_⟩
        (repeat array_get_dec)
        refine ⟨by rw [upd_same, if_neg (by decide), if_pos rfl, if_pos hb]; rfl, fun b o nb e => by
          have e2 := h2 b o nb e
          rw [upd_ne nb, upd_ne (ne_of_none e2 hl)]; exact e2⟩
      · refine ⟨by rw [h1, if_neg (by decide), if_pos rfl, if_neg hb], h2⟩
    | 1, _ =>
      rw [if_neg (by decide), if_pos rfl] at h1
      have lz : (if bN = true then [V.str (Str.ofString "paper")] else []).length < sizeLine := by
        rw [sizeLine_eq]
        split <;> simp
      (repeat array_get_dec)
      refine ite2 (fun hb => ?_) (fun hb => ?_)
      · have hb' : bN = false := by simpa using hb
        (repeat array_get_dec)
        refine ⟨by show 2 ≤ sizeLine; decide, fun l hl => ?_⟩
        (repeat array_get_dec)
        refine ⟨by rw [upd_same, hb']; rfl, fun b o nb e => by
          have e2 := h2 b o nb e
          rw [upd_ne nb, upd_ne (ne_of_none e2 hl)]; exact e2⟩
      · have hb' : bN = true := by simpa using hb
        refine ⟨by rw [h1, hb']; rfl, h2⟩
  · rintro H' ⟨h1, h2⟩
    have h1' : H' A = some (.lst [.str (if bN = true then Str.ofString "paper" else Str.ofString "unknown")]) := h1
    have w0 : atI [V.str (if bN = true then Str.ofString "paper" else Str.ofString "unknown")] (0 : Int) = some (.str (if bN = true then Str.ofString "paper" else Str.ofString "unknown")) := atI_nat (j := 0) rfl
    (repeat array_get_dec)
    refine w_isE (cv := .type "ValueError") (fun u r => r) Y.kV ?_
    (repeat array_get_dec)
    refine q H' fun b o e => ?_
    refine h2 b o (fun z => ?_) (by rw [upd_ne (ne_of_none e hkq)]; exact e)
    rw [z] at e
    have := upd_ne (H := G) (o := .lst [V.bl bN, V.bl (!bN)]) (ne_of_none e hkq)
    rw [hA, e] at this
    cases this
theorem takes0N {X : Cx} : L2N.Takes X (fun _ _ _ _ => False) := fun _ _ x => by
  obtain ⟨_, _, _, _, _, _, _, _, _, _, _, _, _, _, _, _, z⟩ := x
  exact z.elim
theorem room_mark {k : Nat} {A : Around} (r : Room k A) (h : Option Value) : L2H.RoomH k (A.mark h) := ⟨r.dp, r.un⟩
theorem pss_ex {X : Cx} {st : List Stmt} {α : Type} {t : α → TS} (h : ∀ b, PSs X st (t b)) : PSs X st (fun D σ H => ∃ b, t b D σ H) := ⟨fun pins s σ H D I ⟨b, ht⟩ => (h b).run pins s σ H D I ht⟩
def refS (b : Bool) : V := .str (if b = true then Str.ofString "paper" else Str.ofString "unknown")
theorem fnE_b (M : Nms K mg) (b : Bool) : FnE P w K mg base (cond b M.CP M.CU) 1 M.a__law_refusal M.d__law_refusal ["problem"] (refS b) := by
  cases b
  · exact fn_refusal M M.YU M.notPU M.YU.kC rfl
  · exact fn_refusal M M.YP M.YP.kC M.notUP rfl
theorem ok__law_pool (M : Nms K mg) : FnOk P w K mg base CX0 1 M.a__law_pool M.d__law_pool ["script"] (spPool K) := ok_pool M.F__law_pool M.T
theorem ok__law_draw (M : Nms K mg) : FnOk P w K mg base CX0 1 M.a__law_draw M.d__law_draw ["pool", "many"] spDraw := ok_draw M.F__law_draw M.T
theorem ok__law_pick (M : Nms K mg) : FnOk P w K mg base CX0 2 M.a__law_pick M.d__law_pick ["pool", "rows"] spPick := ok_pick M.F__law_pick M.T (ok__law_draw M) M.g__law_draw M.k__law_draw M.b__law_draw
theorem ok__law_same (M : Nms K mg) : FnOk P w K mg base CX0 4 M.a__law_same M.d__law_same ["actual", "due"] (spSame K 3) := ok_same M.F__law_same M.T M.g__law_same M.k__law_same M.b__law_same 3
end
end K50

namespace K50
open PySem PySem.Spec PyProof.Rows L2
local macro_rules | `(tactic| array_mem_dec) => `(tactic| first | with_reducible assumption | with_reducible exact upd_same | ((with_reducible apply same_at); (with_reducible assumption); array_mem_dec) | ((with_reducible apply upd_atN); (with_reducible assumption); array_mem_dec) | ((with_reducible apply upd_at); (first | with_reducible assumption | (apply Ne.symm; with_reducible assumption)); array_mem_dec))
local macro_rules | `(tactic| array_get_dec) => `(tactic| first | (with_reducible refine w_seq ?_) | (with_reducible refine w_asg ?_) | (with_reducible refine w_drop ?_) | (with_reducible refine w_ret ?_) | (with_reducible refine w_retN ?_) | (with_reducible refine w_next ?_) | (with_reducible refine w_break ?_) | (with_reducible refine w_cont ?_) | (with_reducible refine w_ifS ?_) | (with_reducible refine w_sub ?_) | (with_reducible refine w_c ?_) | (with_reducible refine w_op ?_) | (with_reducible refine w_un ?_) | (with_reducible refine w_test ?_) | (with_reducible refine w_B ?_) | (with_reducible refine w_yes ?_) | (with_reducible refine w_not ?_) | (with_reducible refine w_and ?_) | (with_reducible refine w_or ?_) | (with_reducible refine w_andV ?_) | (with_reducible refine w_orV ?_) | (with_reducible refine w_notV ?_) | (with_reducible refine w_ifE ?_) | (with_reducible refine w_nil ?_) | (with_reducible refine w_cons ?_) | (with_reducible refine w_call ?_) | (with_reducible refine w_callS ?_) | (with_reducible refine w_cB ?_) | (with_reducible refine w_lst ?_) | (with_reducible refine w_tup ?_) | (with_reducible refine w_sl ?_) | (with_reducible refine w_noPart ?_) | (with_reducible refine w_part ?_) | (with_reducible refine w_bm ?_) | (with_reducible refine w_bm0 ?_) | (with_reducible refine w_strTy ?_) | (with_reducible refine w_bl ?_) | (with_reducible refine w_int1 ?_) | (with_reducible refine w_str1 ?_) | (with_reducible refine w_rI0 ?_) | (with_reducible refine w_rU ?_) | (with_reducible refine w_eqI ?_) | (with_reducible refine w_eqS ?_) | (with_reducible refine w_neI ?_) | (with_reducible refine w_neS ?_) | (with_reducible refine w_bl2 ?_) | (with_reducible refine w_isN ?_) | (with_reducible refine w_for ?_) | (with_reducible refine w_iRng1 ?_) | (with_reducible refine w_iRng2 ?_) | (with_reducible refine w_iList ?_) | (with_reducible refine w_iTup ?_) | (with_reducible refine w_iStr ?_) | (with_reducible refine w_lc ?_) | (with_reducible refine w_M1 ?_) | (with_reducible refine w_M0 ?_) | (with_reducible refine w_isS ?_) | ((with_reducible apply w_name); (simp only [wipe, List.map_cons, List.map_nil, List.foldl_cons, List.foldl_nil, List.set_cons_zero, List.set_cons_succ]; exact rfl)) | ((with_reducible apply w_var); exact rfl) | ((with_reducible apply w_lstTy); array_mem_dec) | ((with_reducible apply w_lenL); array_mem_dec) | ((with_reducible apply w_lenT); array_mem_dec) | ((with_reducible apply w_listOf); array_mem_dec) | ((with_reducible apply w_lenS); (first | (with_reducible assumption) | omega | (rw [sizeLine_eq]; omega))) | ((with_reducible apply w_slS); (first | (with_reducible assumption) | omega | (rw [sizeLine_eq]; omega))) | ((with_reducible apply w_wipe); exact rfl) | ((with_reducible apply w_acc); array_mem_dec; (try (first | (with_reducible assumption) | omega | (rw [sizeLine_eq]; omega)))) | ((with_reducible apply w_itl); array_mem_dec) | ((with_reducible apply w_itt); array_mem_dec) | ((with_reducible apply w_append); array_mem_dec; (try (first | (with_reducible assumption) | omega | (rw [sizeLine_eq]; omega)))) | ((with_reducible apply w_rng1); (first | (with_reducible assumption) | omega); (first | (with_reducible assumption) | omega)) | ((with_reducible apply w_ixL); array_mem_dec; (first | (with_reducible assumption) | exact rfl | (apply atI_nat; (with_reducible assumption)) | exact atI_last _ _)) | ((with_reducible apply w_ixT); array_mem_dec; (first | (with_reducible assumption) | exact rfl | (apply atI_nat; (with_reducible assumption)) | exact atI_last _ _)) | ((with_reducible apply w_iT); first | exact rfl | (with_reducible assumption)) | ((with_reducible apply w_iF); first | exact rfl | (with_reducible assumption)) | ((with_reducible apply w_isiI (b := true)); decide +kernel) | ((with_reducible apply w_isiI (b := false)); decide +kernel) | ((with_reducible apply w_isiB (b := true)); decide +kernel) | ((with_reducible apply w_isiB (b := false)); decide +kernel) | ((with_reducible apply w_isiS (b := true)); decide +kernel) | ((with_reducible apply w_isiS (b := false)); decide +kernel) | ((with_reducible apply w_isiN (b := true)); decide +kernel) | ((with_reducible apply w_isiN (b := false)); decide +kernel) | ((with_reducible apply w_isiL (b := true)); array_mem_dec; decide +kernel) | ((with_reducible apply w_isiL (b := false)); array_mem_dec; decide +kernel) | ((with_reducible apply w_isiT (b := true)); array_mem_dec; decide +kernel) | ((with_reducible apply w_isiT (b := false)); array_mem_dec; decide +kernel) | (with_reducible refine w_notT ?_) | (with_reducible refine w_chain ?_) | ((with_reducible apply w_trL); array_mem_dec) | ((with_reducible apply w_gTup); array_mem_dec; exact rfl) | ((with_reducible apply w_gLst); array_mem_dec; exact rfl) | (with_reducible refine w_gCons ?_) | (with_reducible refine w_gNil ?_) | (with_reducible refine w_Fld ?_) | (with_reducible refine w_sFld ?_) | (with_reducible refine w_dget ?_) | (with_reducible refine w_dIn ?_) | (with_reducible refine w_dNotIn ?_) | (with_reducible refine w_sDPut ?_) | (with_reducible refine w_dnewK ?_) | (with_reducible refine w_meth ?_) | (with_reducible refine w_make ?_) | (with_reducible refine w_methS ?_) | (with_reducible refine w_makeS ?_) | (with_reducible refine w_dpop ?_) | ((with_reducible apply w_fld1); array_mem_dec; (with_reducible assumption); (with_reducible assumption); exact rfl) | ((with_reducible apply w_sfld1); array_mem_dec; (with_reducible assumption); (with_reducible assumption); exact Nat.le_of_ble_eq_true rfl) | ((with_reducible apply w_meth1); array_mem_dec; exact rfl) | ((with_reducible apply w_dgetS); array_mem_dec; (with_reducible assumption)) | ((with_reducible apply w_dgetI); array_mem_dec; (with_reducible assumption)) | ((with_reducible apply w_dinS); array_mem_dec) | ((with_reducible apply w_dputI); array_mem_dec; (try (first | (with_reducible assumption) | omega | (rw [sizeLine_eq]; omega)))) | ((with_reducible apply w_dputS); array_mem_dec; (try (first | (with_reducible assumption) | omega | (rw [sizeLine_eq]; omega)))) | ((with_reducible apply w_isD); array_mem_dec) | ((with_reducible apply w_dictD); array_mem_dec) | ((with_reducible apply w_dpopS); array_mem_dec; (with_reducible assumption)) | ((with_reducible apply w_setL); array_mem_dec; exact rfl) | ((with_reducible apply w_cat); array_mem_dec; array_mem_dec; (try (first | (with_reducible assumption) | omega | (rw [sizeLine_eq]; omega)))) | (with_reducible refine w_iKeys ?_) | (with_reducible refine w_dget2 ?_) | (with_reducible refine w_scX ?_) | ((with_reducible apply w_keysF); array_mem_dec) | ((with_reducible apply w_dgetSF); array_mem_dec; (with_reducible assumption)))
/-! ### names behind changes, as the law has it -/
theorem dropA_none {l : Nm} {x : Tx} (h : getA l x = none) : dropA l x = l := by
  unfold dropA
  rw [List.filter_eq_self]
  intro p hp
  refine decide_eq_true fun z => ?_
  exact getA_none.mp h (z ▸ List.mem_map_of_mem (f := (·.1)) hp)
theorem merge_app : ∀ (more acc : List (Key × V)), ((acc ++ more).map (·.1)).Nodup → mergeK acc more = acc ++ more
  | [], acc, _ => by rw [List.append_nil]; rfl
  | p :: r, acc, h => by
    show mergeK (putK acc p.1 p.2) r = _
    have hn : valV acc p.1 = none := by
      cases e : valV acc p.1 with
      | none => rfl
      | some v =>
        have := valV_any p.1 acc
        rw [e] at this
        obtain ⟨q, mq, eq⟩ := List.any_eq_true.mp this
        rw [List.map_append, List.nodup_append] at h
        exact absurd (of_decide_eq_true eq) (h.2.2 q.1 (List.mem_map_of_mem mq) p.1 (by simp))
    rw [putK_new _ hn]
    have e : acc ++ [(p.1, p.2)] ++ r = acc ++ p :: r := by simp
    rw [merge_app r (acc ++ [(p.1, p.2)]) (by rw [e]; exact h), e]
theorem kvT_nodup {l : Nm} (h : (l.map (·.1)).Nodup) : ((kvT l).map (·.1)).Nodup := by
  rw [kvT_keys, List.map_map]
  have e : l.map (Sum.inr ∘ fun p => mkS p.1) = (l.map (·.1)).map fun t => (Sum.inr (mkS t) : Key) := by rw [List.map_map]; rfl
  rw [e]
  exact (List.pairwise_map.mpr (h.imp fun hn z => hn (injT _ _ z)))
theorem kvT_merge {l : Nm} (h : (l.map (·.1)).Nodup) : mergeK [] (kvT l) = kvT l := merge_app (kvT l) [] (by rw [List.nil_append]; exact kvT_nodup h)
/-- pairs as tuples -/
def PrAt (H : Hp) : List Addr → Nm → Prop
  | [], [] => True
  | t :: ts, c :: cs => H t = some (.tup [sv c.1, .int (c.2 : Int)]) ∧ PrAt H ts cs
  | _, _ => False
theorem PrAt.keep {H H' : Hp} : ∀ {ts : List Addr} {cs : Nm}, PrAt H ts cs → (∀ t xs, H t = some (.tup xs) → H' t = some (.tup xs)) → PrAt H' ts cs
  | [], [], _, _ => trivial
  | t :: ts, c :: cs, h, k => ⟨k t _ h.1, PrAt.keep h.2 k⟩
  | [], _ :: _, h, _ => h.elim
  | _ :: _, [], h, _ => h.elim
theorem PrAt.len {H : Hp} : ∀ {ts : List Addr} {cs : Nm}, PrAt H ts cs → ts.length = cs.length
  | [], [], _ => rfl
  | t :: ts, c :: cs, h => by rw [List.length_cons, List.length_cons, PrAt.len h.2]
  | [], _ :: _, h => h.elim
  | _ :: _, [], h => h.elim
theorem PrAt.snoc {H : Hp} {t : Addr} {c : Tx × Nat} : ∀ {ts : List Addr} {cs : Nm}, PrAt H ts cs → H t = some (.tup [sv c.1, .int (c.2 : Int)]) → PrAt H (ts ++ [t]) (cs ++ [c])
  | [], [], _, e => ⟨e, trivial⟩
  | u :: ts, d :: cs, h, e => ⟨h.1, PrAt.snoc h.2 e⟩
  | [], _ :: _, h, _ => h.elim
  | _ :: _, [], h, _ => h.elim
theorem PrAt.paired {K : PySem.W.Frag} {H : Hp} : ∀ {ts : List Addr} {cs : Nm}, PrAt H ts cs → Paired (fun p (kv : Key × V) => SqT K H p [kV kv.1, kv.2]) ts (kvT cs)
  | [], [], _ => .nil
  | t :: ts, c :: cs, h => .cons (SqT.of h.1) (PrAt.paired h.2)
  | [], _ :: _, h => h.elim
  | _ :: _, [], h => h.elim
def spNAfter : Sp := fun vs H Q _ => ∃ (n c : Addr) (ts : List Addr) (l : Nm) (cs : List Chg), vs = [.ref n, .ref c] ∧ H n = some (.dK (kvT l)) ∧ H c = some (.lst (ts.map V.ref)) ∧ ChAt H ts cs ∧ okA l cs ∧ l.length + cs.length ≤ 100000 ∧ (l.map (·.1)).Nodup ∧
  ∀ p H', Same H H' → H p = none → H' p = some (.dK (kvT (applyA l cs))) → Q (.ref p) H'
section
variable {P : Program} {w : World} {K : PySem.W.Frag} {mg : Str → Option Value} {base : Heap}
theorem ok__law_names_after (M : Nms K mg) : FnOk P w K mg base CX0 1 M.a__law_names_after M.d__law_names_after ["names", "changes"] spNAfter := by
  refine M.F__law_names_after.ok sc__law_names_after (fun vs H Q E h => ?_) (fun cdv A outer s H vs Q E hr h => ?_)
  · obtain ⟨n, c, ts, l, cs, rfl, _⟩ := h
    rfl
  · have hu := hu1 hr
    have clD := M.clD
    have nD_kept := M.nD_kept
    have nD_late := M.nD_late
    have nD_names := M.nD_names
    have nD_sure := M.nD_sure
    have nD_changes := M.nD_changes
    have nD_next := M.nD_next
    refine ⟨_, (pss_cons (ps_set (i := 2) sc__law_names_after.nd rfl (Or.inr rfl) (pe_callTy call_dictD (by rfl) M.T.b_dict (by decide +kernel) (pa_cons (pv 0) pa_nil)))
    (pss_cons (ps_for PassesOwn.never rfl (pi_list (pv 1)) (pg_tup rfl (pgs_cons (pg_name (i := 3) sc__law_names_after.nd rfl (Or.inl rfl)) (pgs_cons (pg_name (i := 4) sc__law_names_after.nd rfl (Or.inr rfl)) (pgs_cons (pg_name (i := 5) sc__law_names_after.nd rfl (Or.inl rfl)) pgs_nil)))) (pss_cons (ps_set (i := 6) sc__law_names_after.nd rfl (Or.inl rfl) (pe_ifExp (pt_cmp (pc_din hu (pv 4) (pv 2))) (pe_dget hu (pv 2) (pv 4) (fun _ _ => rfl)) pe_non))
    (pss_cons (ps_set (i := 2) sc__law_names_after.nd rfl (Or.inr rfl) (pe_callTy (call_dictP rfl) (by rfl) M.T.b_dict (by decide +kernel) (pa_cons (pe_lock (pe_lc (own := [("name", 7)]) rfl sc__law_names_after.nd (pi_keys (pv 2)) (blkOk_by (N := ["names", "changes", "found", "word", "one", "other", "kept", "name"]) (sc := defScope s__law_names_after) (own := [("name", 7)]) (by decide +kernel)) (fun _ _ _ _ _ => (pg_name (i := 7) sc__law_names_after.nd rfl (Or.inl rfl))) (fun _ _ _ _ _ => pts_one (pt_cmpR op_ne (pv 7) (pv 4) (nomark _))) (fun _ _ _ _ _ => (pe_tup (pa_cons (pv 7) (pa_cons (pe_dget hu (pv 2) (pv 7) (fun _ _ => rfl)) pa_nil)))))) pa_nil)))
    (pss_cons (ps_if (pt_cmpR op_eq (pv 3) pe_str (nomark _)) (pss_one (ps_dput hu (pv 2) (pv 4) (pv 5) rfl)) pss_nil)
    (pss_one (ps_if (pt_cmpR op_eq (pv 3) pe_str (nomark _)) (pss_one (ps_dput hu (pv 2) (pv 5) (pv 6) rfl)) pss_nil))))))
    (pss_one (ps_ret (pv 2))))), ?_⟩
    try dsimp only [cxOf, Cx.nox]
    obtain ⟨n, c, ts, l, cs, rfl, hn, hc, tp, ok, hl, ndl, q⟩ := h
    refine w_start (σ' := [some (.ref n), some (.ref c), none, none, none, none, none, none]) rfl ?_
    (repeat array_get_dec)
    intro p0 hp0
    (repeat array_get_dec)
    have hlen := tp.len
    refine for_list (K := K) (a := c) (xs := ts.map V.ref) (fun i σ H' => ∃ p v3 v4 v5 v6, σ = [some (.ref n), some (.ref c), some (.ref p), v3, v4, v5, v6, none] ∧ Same H H' ∧ H p = none ∧ H' p = some (.dK (kvT (applyA l (cs.take i))))) ⟨p0, none, none, none, none, rfl, same_upd (Same.refl _) hp0, hp0, upd_same⟩ ?_ ?_ ?_
    · rintro i σ H' hi ⟨p, v3, v4, v5, v6, rfl, hs, _, hpp⟩
      exact SqL.of (hs _ _ hc)
    · rintro i v σ H' hv ⟨p, v3, v4, v5, v6, rfl, hs, pH, hpp⟩
      obtain ⟨t, ht, rfl⟩ := getE_map hv
      obtain ⟨ch, hch, htt⟩ := tp.get i ht
      have htt' := hs _ _ htt
      have okc := okA_at ok hch
      have ndN : ((applyA l (cs.take i)).map (·.1)).Nodup := applyA_nodup _ ndl
      have ll : (applyA l (cs.take i)).length < 1000000 := by
        have := applyA_len (cs.take i) l
        rw [List.length_take] at this
        omega
      rw [applyA_take hch]
      generalize hN : applyA l (cs.take i) = N at *
      -- the middle: found without one
      have mid : ∀ (x : Tx) (y z k6 : Option V) (Qk : VK), (∀ A2 ps H3, H3 A2 = some (.lst (ps.map V.ref)) → PrAt H3 ps (dropA N x) → (∀ b o, H' b = some o → H3 b = some o) → Qk (.ref A2) H3) →
          tLockE (tLc (iKeys (tVar 2)) (gName 7) (tTest (tOp rNe (tVar 7) (tVar 4))) (tTup (tCons (tVar 7) (tCons (tDGet (tVar 2) (tVar 7)) tNil))) [7]) [some (.ref n), some (.ref c), some (.ref p), y, some (sv x), z, k6, none] H' Qk := by
        intro x y z k6 Qk hk
        refine ⟨p, _, hpp, trivial, fun od => ?_⟩
        (repeat array_get_dec)
        intro A2 hA2
        have nA : A2 ≠ p := fun z => by rw [z, upd_same] at hA2; cases hA2
        have hA0 : H' A2 = none := by rw [upd_ne nA] at hA2; exact hA2
        refine lc_keys (d := p) (od := od) (kvs := kvT N) (fun i H2 => (∃ ps : List Addr, H2 A2 = some (.lst (ps.map V.ref)) ∧ PrAt H2 ps (dropA (N.take i) x)) ∧ ∀ b o, b ≠ A2 → upd H' p (.frz od (.dK (kvT N))) b = some o → H2 b = some o) ⟨⟨[], upd_same, trivial⟩, fun b o nb e => by rw [upd_ne nb]; exact e⟩ ?_ ?_ ?_
        · rintro i H2 _ ⟨_, h2⟩
          exact h2 _ _ (Ne.symm nA) upd_same
        · rintro i ky v H2 hkv ⟨⟨ps, h1, pr⟩, h2⟩
          obtain ⟨⟨y2, m⟩, hNi, ekv⟩ : ∃ p, N[i]? = some p ∧ (ky, v) = ((Sum.inr (mkS p.1) : Key), V.int (p.2 : Int)) := by
            unfold kvT at hkv
            rw [List.getElem?_map] at hkv
            cases e : N[i]? with
            | none => rw [e] at hkv; cases hkv
            | some p => rw [e] at hkv; exact ⟨p, rfl, (Option.some.inj hkv).symm⟩
          cases ekv
          have gx : getA N y2 = some m := getA_of_mem ndN (List.mem_of_getElem? hNi)
          have e1 : valV (kvT N) (Sum.inr (mkS y2)) = some (.int ((m : Nat) : Int)) := by rw [kvT_val, gx]; rfl
          have hfz := h2 _ _ (Ne.symm nA) upd_same
          have lp : ps.length ≤ N.length := by
            rw [pr.len]
            have := dropA_len (l := N.take i) (x := x)
            rw [List.length_take] at this
            omega
          have lz : (ps.map V.ref).length < sizeLine := by rw [List.length_map, sizeLine_eq]; omega
          dsimp only [kV]
          (repeat array_get_dec)
          refine ite2 (fun hb => ?_) (fun hb => ?_)
          · have hne : y2 ≠ x := fun z => by rw [z, ne_self] at hb; cases hb
            (repeat array_get_dec)
            refine ⟨by show 2 ≤ sizeLine; decide, fun t2 ht2 => ?_⟩
            have nt : t2 ≠ A2 := Ne.symm (ne_of_none h1 ht2)
            have h1' := upd_atN (o := .tup [sv y2, .int (m : Int)]) ht2 h1
            (repeat array_get_dec)
            refine ⟨⟨ps ++ [t2], by rw [upd_same, List.map_append]; rfl, ?_⟩, fun b o nb e => by rw [upd_ne nb]; exact upd_atN ht2 (h2 b o nb e)⟩
            have ed : dropA (N.take (i + 1)) x = dropA (N.take i) x ++ [(y2, m)] := by
              unfold dropA
              rw [take_one hNi, List.filter_append]
              simp [hne]
            rw [ed]
            refine PrAt.snoc (pr.keep fun u xs e => ?_) ?_
            · rw [upd_ne fun z => by rw [z, h1] at e; cases e]
              exact upd_atN ht2 e
            · rw [upd_ne nt, upd_same]
          · have heq : y2 = x := by
              by_cases e : y2 = x
              · exact e
              · exact absurd (by rw [decide_eq_false fun z => e (mkS_inj' (V.str.inj z))]; rfl) hb
            refine ⟨⟨ps, h1, ?_⟩, h2⟩
            have ed : dropA (N.take (i + 1)) x = dropA (N.take i) x := by
              unfold dropA
              rw [take_one hNi, List.filter_append]
              simp [heq]
            rw [ed]
            exact pr
        · rintro H2 ⟨⟨ps, h1, pr⟩, h2⟩
          have hfz := h2 _ _ (Ne.symm nA) upd_same
          rw [kvT_len, List.take_length] at pr
          refine ⟨hfz, ?_⟩
          have s2 : ∀ b o, H' b = some o → upd H2 p (.dK (kvT N)) b = some o := fun b o e => by
            by_cases eb : b = p
            · rw [eb] at e ⊢
              rw [upd_same, ← hpp, e]
            · rw [upd_ne eb]
              exact h2 b o (fun z => by rw [z, hA0] at e; cases e) (by rw [upd_ne eb]; exact e)
          have h1' : upd H2 p (.dK (kvT N)) A2 = some (.lst (ps.map V.ref)) := by rw [upd_ne nA]; exact h1
          have pr' : PrAt (upd H2 p (.dK (kvT N))) ps (dropA N x) := pr.keep fun u xs e => by
            rw [upd_ne fun z => by rw [z, hfz] at e; cases e]
            exact e
          exact hk A2 ps _ h1' pr' s2
      have fin : ∀ (p3 : Addr) (H3 H4 : Hp), (∀ b o, H' b = some o → H3 b = some o) → H3 p3 = none → (∀ b, b ≠ p3 → H4 b = H3 b) → Same H H4 ∧ H p3 = none := fun p3 H3 H4 a1 a2 a3 => by
        have n3 : H p3 = none := by
          cases e : H p3 with
          | none => rfl
          | some o => rw [a1 _ _ (hs _ _ e)] at a2; cases a2
        exact ⟨fun b o e => by rw [a3 b (ne_of_none e n3)]; exact a1 _ _ (hs _ _ e), n3⟩
      have lz0 : ∀ x, (kvT (dropA N x)).length < sizeLine := fun x => by
        rw [kvT_len, sizeLine_eq]
        have := dropA_len (l := N) (x := x)
        omega
      cases ch with
      | make x m =>
        unfold tupC at htt'
        have hx : getA N x = none := okc
        (repeat array_get_dec)
        rw [kvT_val, hx]
        (repeat array_get_dec)
        refine mid x _ _ _ _ fun A2 ps H3 h1 pr s3 => ?_
        (repeat array_get_dec)
        refine ⟨A2, ps, kvT (dropA N x), rfl, SqL.of h1, pr.paired, fun p3 hp3 => ?_⟩
        rw [kvT_merge (dropA_nodup ndN)]
        have lz := lz0 x
        (repeat array_get_dec)
        obtain ⟨f1, f2⟩ := fin p3 H3 _ s3 hp3 (fun b nb => (upd_ne nb).trans (upd_ne nb))
        refine ⟨p3, _, _, _, _, rfl, f1, f2, ?_⟩
        rw [upd_same, kvT_put, dropA_none hx]
        rfl
      | move x y =>
        unfold tupC at htt'
        obtain ⟨m, hm⟩ := Option.isSome_iff_exists.mp (show (getA N x).isSome = true from okc)
        have e1 : valV (kvT N) (Sum.inr (mkS x)) = some (.int ((m : Nat) : Int)) := by rw [kvT_val, hm]; rfl
        (repeat array_get_dec)
        rw [e1]
        (repeat array_get_dec)
        refine mid x _ _ _ _ fun A2 ps H3 h1 pr s3 => ?_
        (repeat array_get_dec)
        refine ⟨A2, ps, kvT (dropA N x), rfl, SqL.of h1, pr.paired, fun p3 hp3 => ?_⟩
        rw [kvT_merge (dropA_nodup ndN)]
        have lz := lz0 x
        (repeat array_get_dec)
        obtain ⟨f1, f2⟩ := fin p3 H3 _ s3 hp3 (fun b nb => (upd_ne nb).trans (upd_ne nb))
        refine ⟨p3, _, _, _, _, rfl, f1, f2, ?_⟩
        rw [upd_same, kvT_put, show applyC N (.move x y) = (match getA N x with | some n => putA (dropA N x) y n | none => N) from rfl, hm]
      | drop x =>
        unfold tupC at htt'
        obtain ⟨m, hm⟩ := Option.isSome_iff_exists.mp (show (getA N x).isSome = true from okc)
        have e1 : valV (kvT N) (Sum.inr (mkS x)) = some (.int ((m : Nat) : Int)) := by rw [kvT_val, hm]; rfl
        (repeat array_get_dec)
        rw [e1]
        (repeat array_get_dec)
        refine mid x _ _ _ _ fun A2 ps H3 h1 pr s3 => ?_
        (repeat array_get_dec)
        refine ⟨A2, ps, kvT (dropA N x), rfl, SqL.of h1, pr.paired, fun p3 hp3 => ?_⟩
        rw [kvT_merge (dropA_nodup ndN)]
        have lz := lz0 x
        (repeat array_get_dec)
        obtain ⟨f1, f2⟩ := fin p3 H3 _ s3 hp3 (fun b nb => upd_ne nb)
        refine ⟨p3, _, _, _, _, rfl, f1, f2, ?_⟩
        rw [upd_same]
        rfl
    · rintro σ H' ⟨p, v3, v4, v5, v6, rfl, hs, pH, hpp⟩
      (repeat array_get_dec)
      refine q p H' hs pH ?_
      rw [List.length_map, hlen, List.take_length] at hpp
      exact hpp
end
end K50

namespace K50
open PySem PySem.Spec PyProof.Rows L2
local macro_rules | `(tactic| array_mem_dec) => `(tactic| first | with_reducible assumption | with_reducible exact upd_same | ((with_reducible apply same_at); (with_reducible assumption); array_mem_dec) | ((with_reducible apply upd_atN); (with_reducible assumption); array_mem_dec) | ((with_reducible apply upd_at); (first | with_reducible assumption | (apply Ne.symm; with_reducible assumption)); array_mem_dec))
local macro_rules | `(tactic| array_get_dec) => `(tactic| first | (with_reducible refine w_seq ?_) | (with_reducible refine w_asg ?_) | (with_reducible refine w_drop ?_) | (with_reducible refine w_ret ?_) | (with_reducible refine w_retN ?_) | (with_reducible refine w_next ?_) | (with_reducible refine w_break ?_) | (with_reducible refine w_cont ?_) | (with_reducible refine w_ifS ?_) | (with_reducible refine w_sub ?_) | (with_reducible refine w_c ?_) | (with_reducible refine w_op ?_) | (with_reducible refine w_un ?_) | (with_reducible refine w_test ?_) | (with_reducible refine w_B ?_) | (with_reducible refine w_yes ?_) | (with_reducible refine w_not ?_) | (with_reducible refine w_and ?_) | (with_reducible refine w_or ?_) | (with_reducible refine w_andV ?_) | (with_reducible refine w_orV ?_) | (with_reducible refine w_notV ?_) | (with_reducible refine w_ifE ?_) | (with_reducible refine w_nil ?_) | (with_reducible refine w_cons ?_) | (with_reducible refine w_call ?_) | (with_reducible refine w_callS ?_) | (with_reducible refine w_cB ?_) | (with_reducible refine w_lst ?_) | (with_reducible refine w_tup ?_) | (with_reducible refine w_sl ?_) | (with_reducible refine w_noPart ?_) | (with_reducible refine w_part ?_) | (with_reducible refine w_bm ?_) | (with_reducible refine w_bm0 ?_) | (with_reducible refine w_strTy ?_) | (with_reducible refine w_bl ?_) | (with_reducible refine w_int1 ?_) | (with_reducible refine w_str1 ?_) | (with_reducible refine w_rI0 ?_) | (with_reducible refine w_rU ?_) | (with_reducible refine w_eqI ?_) | (with_reducible refine w_eqS ?_) | (with_reducible refine w_neI ?_) | (with_reducible refine w_neS ?_) | (with_reducible refine w_bl2 ?_) | (with_reducible refine w_isN ?_) | (with_reducible refine w_for ?_) | (with_reducible refine w_iRng1 ?_) | (with_reducible refine w_iRng2 ?_) | (with_reducible refine w_iList ?_) | (with_reducible refine w_iTup ?_) | (with_reducible refine w_iStr ?_) | (with_reducible refine w_lc ?_) | (with_reducible refine w_M1 ?_) | (with_reducible refine w_M0 ?_) | (with_reducible refine w_isS ?_) | ((with_reducible apply w_name); (simp only [wipe, List.map_cons, List.map_nil, List.foldl_cons, List.foldl_nil, List.set_cons_zero, List.set_cons_succ]; exact rfl)) | ((with_reducible apply w_var); exact rfl) | ((with_reducible apply w_lstTy); array_mem_dec) | ((with_reducible apply w_lenL); array_mem_dec) | ((with_reducible apply w_lenT); array_mem_dec) | ((with_reducible apply w_listOf); array_mem_dec) | ((with_reducible apply w_lenS); (first | (with_reducible assumption) | omega | (rw [sizeLine_eq]; omega))) | ((with_reducible apply w_slS); (first | (with_reducible assumption) | omega | (rw [sizeLine_eq]; omega))) | ((with_reducible apply w_wipe); exact rfl) | ((with_reducible apply w_acc); array_mem_dec; (try (first | (with_reducible assumption) | omega | (rw [sizeLine_eq]; omega)))) | ((with_reducible apply w_itl); array_mem_dec) | ((with_reducible apply w_itt); array_mem_dec) | ((with_reducible apply w_append); array_mem_dec; (try (first | (with_reducible assumption) | omega | (rw [sizeLine_eq]; omega)))) | ((with_reducible apply w_rng1); (first | (with_reducible assumption) | omega); (first | (with_reducible assumption) | omega)) | ((with_reducible apply w_ixL); array_mem_dec; (first | (with_reducible assumption) | exact rfl | (apply atI_nat; (with_reducible assumption)) | exact atI_last _ _)) | ((with_reducible apply w_ixT); array_mem_dec; (first | (with_reducible assumption) | exact rfl | (apply atI_nat; (with_reducible assumption)) | exact atI_last _ _)) | ((with_reducible apply w_iT); first | exact rfl | (with_reducible assumption)) | ((with_reducible apply w_iF); first | exact rfl | (with_reducible assumption)) | ((with_reducible apply w_isiI (b := true)); decide +kernel) | ((with_reducible apply w_isiI (b := false)); decide +kernel) | ((with_reducible apply w_isiB (b := true)); decide +kernel) | ((with_reducible apply w_isiB (b := false)); decide +kernel) | ((with_reducible apply w_isiS (b := true)); decide +kernel) | ((with_reducible apply w_isiS (b := false)); decide +kernel) | ((with_reducible apply w_isiN (b := true)); decide +kernel) | ((with_reducible apply w_isiN (b := false)); decide +kernel) | ((with_reducible apply w_isiL (b := true)); array_mem_dec; decide +kernel) | ((with_reducible apply w_isiL (b := false)); array_mem_dec; decide +kernel) | ((with_reducible apply w_isiT (b := true)); array_mem_dec; decide +kernel) | ((with_reducible apply w_isiT (b := false)); array_mem_dec; decide +kernel) | (with_reducible refine w_notT ?_) | (with_reducible refine w_chain ?_) | ((with_reducible apply w_trL); array_mem_dec) | ((with_reducible apply w_gTup); array_mem_dec; exact rfl) | ((with_reducible apply w_gLst); array_mem_dec; exact rfl) | (with_reducible refine w_gCons ?_) | (with_reducible refine w_gNil ?_) | (with_reducible refine w_Fld ?_) | (with_reducible refine w_sFld ?_) | (with_reducible refine w_dget ?_) | (with_reducible refine w_dIn ?_) | (with_reducible refine w_dNotIn ?_) | (with_reducible refine w_sDPut ?_) | (with_reducible refine w_dnewK ?_) | (with_reducible refine w_meth ?_) | (with_reducible refine w_make ?_) | (with_reducible refine w_methS ?_) | (with_reducible refine w_makeS ?_) | (with_reducible refine w_dpop ?_) | ((with_reducible apply w_fld1); array_mem_dec; (with_reducible assumption); (with_reducible assumption); exact rfl) | ((with_reducible apply w_sfld1); array_mem_dec; (with_reducible assumption); (with_reducible assumption); exact Nat.le_of_ble_eq_true rfl) | ((with_reducible apply w_meth1); array_mem_dec; exact rfl) | ((with_reducible apply w_dgetS); array_mem_dec; (with_reducible assumption)) | ((with_reducible apply w_dgetI); array_mem_dec; (with_reducible assumption)) | ((with_reducible apply w_dinS); array_mem_dec) | ((with_reducible apply w_dputI); array_mem_dec; (try (first | (with_reducible assumption) | omega | (rw [sizeLine_eq]; omega)))) | ((with_reducible apply w_dputS); array_mem_dec; (try (first | (with_reducible assumption) | omega | (rw [sizeLine_eq]; omega)))) | ((with_reducible apply w_isD); array_mem_dec) | ((with_reducible apply w_dictD); array_mem_dec) | ((with_reducible apply w_dpopS); array_mem_dec; (with_reducible assumption)) | ((with_reducible apply w_setL); array_mem_dec; exact rfl) | ((with_reducible apply w_cat); array_mem_dec; array_mem_dec; (try (first | (with_reducible assumption) | omega | (rw [sizeLine_eq]; omega)))) | (with_reducible refine w_iKeys ?_) | (with_reducible refine w_dget2 ?_) | (with_reducible refine w_scX ?_) | ((with_reducible apply w_keysF); array_mem_dec) | ((with_reducible apply w_dgetSF); array_mem_dec; (with_reducible assumption)))
/-! ### the law's own lists -/
structure HereP (H : Hp) (h nd cl fl : Addr) (ts fs : List Addr) (D : DS) : Prop where
  no : (h :: cl :: fl :: fs).Nodup
  hh : H h = some (.lst [.ref nd, .ref cl, .ref fl])
  hn : H nd = some (.dK (kvT D.sure))
  hc : H cl = some (.lst (ts.map V.ref))
  tp : ChAt H ts D.ch
  hf : H fl = some (.lst (fs.map V.ref))
  len : fs.length = D.next
  ff : ∀ i f, fs[i]? = some f → H f = some (.lst [sv (keptD D i), sv (lateD D i)])
def hereF (h nd cl fl : Addr) (fs : List Addr) : List Addr := h :: nd :: cl :: fl :: fs
def HereAt (H : Hp) (h : Addr) (fh : List Addr) (D : DS) : Prop := ∃ nd cl fl ts fs, fh = hereF h nd cl fl fs ∧ HereP H h nd cl fl ts fs D
theorem HereP.keep {H H' : Hp} {h nd cl fl : Addr} {ts fs : List Addr} {D : DS} (x : HereP H h nd cl fl ts fs D) (k : ∀ b o, H b = some o → b ∈ hereF h nd cl fl fs ∨ (∃ xs, o = .tup xs) → H' b = some o) : HereP H' h nd cl fl ts fs D := by
  refine ⟨x.no, k _ _ x.hh (.inl (by simp [hereF])), k _ _ x.hn (.inl (by simp [hereF])), k _ _ x.hc (.inl (by simp [hereF])), x.tp.keep fun t m o e => ?_, k _ _ x.hf (.inl (by simp [hereF])), x.len, fun i f e => k _ _ (x.ff i f e) (.inl ?_)⟩
  · obtain ⟨c, e2⟩ := x.tp.tup m
    rw [e2] at e
    cases e
    exact k _ _ e2 (.inr ⟨_, rfl⟩)
  · have := List.mem_of_getElem? e
    simp [hereF, this]
theorem HereAt.keep {H H' : Hp} {h : Addr} {fh : List Addr} {D : DS} (x : HereAt H h fh D) (k : ∀ b o, H b = some o → b ∈ fh ∨ (∃ xs, o = .tup xs) → H' b = some o) : HereAt H' h fh D := by
  obtain ⟨nd, cl, fl, ts, fs, rfl, p⟩ := x
  exact ⟨nd, cl, fl, ts, fs, rfl, p.keep k⟩
theorem HereAt.same {H H' : Hp} {h : Addr} {fh : List Addr} {D : DS} (x : HereAt H h fh D) (s : Same H H') : HereAt H' h fh D := x.keep fun b o e _ => s b o e
theorem HereP.tupN {H : Hp} {h nd cl fl : Addr} {ts fs : List Addr} {D : DS} (x : HereP H h nd cl fl ts fs D) : ∀ b xs, H b = some (.tup xs) → b ∉ hereF h nd cl fl fs := by
  intro b xs e m
  simp only [hereF, List.mem_cons] at m
  rcases m with rfl | rfl | rfl | rfl | m
  · rw [x.hh] at e; cases e
  · rw [x.hn] at e; cases e
  · rw [x.hc] at e; cases e
  · rw [x.hf] at e; cases e
  · obtain ⟨i, hi⟩ := List.getElem?_of_mem m
    rw [x.ff i b hi] at e
    cases e
theorem HereAt.noTup {H : Hp} {h : Addr} {fh : List Addr} {D : DS} (x : HereAt H h fh D) : ∀ b xs, H b = some (.tup xs) → b ∉ fh := by
  obtain ⟨nd, cl, fl, ts, fs, rfl, p⟩ := x
  exact p.tupN
theorem HereAt.has {H : Hp} {h : Addr} {fh : List Addr} {D : DS} (x : HereAt H h fh D) : ∀ b ∈ fh, H b ≠ none := by
  obtain ⟨nd, cl, fl, ts, fs, rfl, p⟩ := x
  intro b m e
  simp only [hereF, List.mem_cons] at m
  rcases m with rfl | rfl | rfl | rfl | m
  · rw [p.hh] at e; cases e
  · rw [p.hn] at e; cases e
  · rw [p.hc] at e; cases e
  · rw [p.hf] at e; cases e
  · obtain ⟨i, hi⟩ := List.getElem?_of_mem m
    rw [p.ff i b hi] at e
    cases e
/-- one file's texts are stored anew -/
theorem HereP.file {H : Hp} {h nd cl fl : Addr} {ts fs : List Addr} {D D' : DS} (x : HereP H h nd cl fl ts fs D) {i : Nat} {f : Addr} {t u : Tx} (hf : fs[i]? = some f) (e1 : D'.sure = D.sure) (e2 : D'.ch = D.ch) (e3 : D'.next = D.next)
    (e4 : keptD D' i = t) (e5 : lateD D' i = u) (e6 : ∀ j, j ≠ i → keptD D' j = keptD D j ∧ lateD D' j = lateD D j) : HereP (upd H f (.lst [sv t, sv u])) h nd cl fl ts fs D' := by
  have mf := List.mem_of_getElem? hf
  have no := x.no
  simp only [List.nodup_cons, List.mem_cons, not_or] at no
  obtain ⟨⟨n1, n2, n3⟩, ⟨n4, n5⟩, n6, n7⟩ := no
  refine ⟨x.no, ?_, ?_, ?_, ?_, ?_, x.len.trans e3.symm, fun j g hg => ?_⟩
  · rw [upd_ne (fun z => n3 (by rw [z]; exact mf))]; exact x.hh
  · rw [e1, upd_ne (fun z => by have := x.hn; rw [z, x.ff i f hf] at this; cases this)]; exact x.hn
  · rw [upd_ne (fun z => n5 (by rw [z]; exact mf))]; exact x.hc
  · rw [e2]
    refine x.tp.keep fun t m o e => ?_
    obtain ⟨c, e'⟩ := x.tp.tup m
    rw [upd_ne (fun z => by rw [z, x.ff i f hf] at e'; cases e')]
    exact e
  · rw [upd_ne (fun z => n6 (by rw [z]; exact mf))]; exact x.hf
  · by_cases e : j = i
    · subst e
      rw [hf] at hg
      cases hg
      rw [upd_same, e4, e5]
    · have ng : g ≠ f := fun z => by
        rw [z] at hg
        obtain ⟨a1, a2⟩ := List.getElem?_eq_some_iff.mp hg
        obtain ⟨b1, b2⟩ := List.getElem?_eq_some_iff.mp hf
        exact e ((List.getElem_inj n7).mp (a2.trans b2.symm))
      rw [upd_ne ng, (e6 j e).1, (e6 j e).2]
      exact x.ff j g hg
def tupR : Row → List V
  | .make x => [.str (Str.ofString "make"), sv x]
  | .write x t => [.str (Str.ofString "write"), sv x, sv t]
  | .sync x => [.str (Str.ofString "sync"), sv x]
  | .names => [.str (Str.ofString "names")]
  | .move x y => [.str (Str.ofString "move"), sv x, sv y]
  | .drop x => [.str (Str.ofString "remove"), sv x]
  | .cut x n => [.str (Str.ofString "cut"), sv x, vIB n]
def resV : Res → V
  | .done => .str (Str.ofString "done")
  | .paper => .str (Str.ofString "paper")
  | .unknown => .str (Str.ofString "unknown")
def spPlain : Sp := fun vs H Q _ => ∃ (h r : Addr) (fh : List Addr) (D : DS) (row : Row), vs = [.ref h, .ref r] ∧ HereAt H h fh D ∧ wf D ∧ bd D ∧ D.next ≤ 1000 ∧ H r = some (.tup (tupR row)) ∧ bd (step D row).1 ∧
  ∀ H' fh', HereAt H' h fh' (step D row).1 → Fr fh fh' H H' → Q (resV (step D row).2) H'
theorem wf.numN' {D : DS} (w : wf D) {x : Tx} {i : Nat} (h : getA D.names x = some i) : i < D.next := w.nx i (w.num h)
theorem getD_put {l : List (Nat × Tx)} {i j : Nat} {t : Tx} : (getA (putA l i t) j).getD [] = if j = i then t else (getA l j).getD [] := by
  rw [getA_put]
  split <;> rfl
/-- what a change of names leaves, in the law's lists -/
theorem chEnd {H H1 : Hp} {h nd cl fl : Addr} {ts fs : List Addr} {D : DS} {c : Chg} {t l1 c2 : Addr} (hp1 : HereP H1 h nd cl fl ts fs D) (F1 : Fr (hereF h nd cl fl fs) (hereF h nd cl fl fs) H H1) (ht : H1 t = none)
    (hl1 : upd H1 t (.tup (tupC c)) l1 = none) (hc2 : upd (upd H1 t (.tup (tupC c))) l1 (.lst [V.ref t]) c2 = none) :
    HereAt (upd (upd (upd (upd H1 t (.tup (tupC c))) l1 (.lst [V.ref t])) c2 (.lst (ts.map V.ref ++ [V.ref t]))) h (.lst [.ref nd, .ref c2, .ref fl])) h (hereF h nd c2 fl fs) (chD D c) ∧
      Fr (hereF h nd cl fl fs) (hereF h nd c2 fl fs) H (upd (upd (upd (upd H1 t (.tup (tupC c))) l1 (.lst [V.ref t])) c2 (.lst (ts.map V.ref ++ [V.ref t]))) h (.lst [.ref nd, .ref c2, .ref fl])) := by
  have hh := hp1.hh
  have c2H : H1 c2 = none := (hu2 (hu2 hc2).2).2
  have nh : ∀ {b}, H1 b = none → b ≠ h := fun e z => by rw [z, hh] at e; cases e
  have nfs : ∀ {b}, H1 b = none → b ∉ fs := fun e m => by
    obtain ⟨i, hi⟩ := List.getElem?_of_mem m
    rw [hp1.ff i _ hi] at e; cases e
  have no := hp1.no
  simp only [List.nodup_cons, List.mem_cons, not_or] at no
  obtain ⟨⟨n1, n2, n3⟩, ⟨n4, n5⟩, n6, n7⟩ := no
  have keep : ∀ {b o}, b ≠ h → upd H1 t (.tup (tupC c)) b = some o → upd (upd (upd (upd H1 t (.tup (tupC c))) l1 (.lst [V.ref t])) c2 (.lst (ts.map V.ref ++ [V.ref t]))) h (.lst [.ref nd, .ref c2, .ref fl]) b = some o := fun nb e => (upd_ne nb).trans (upd_atN hc2 (upd_atN hl1 e))
  have k1 : ∀ {b o}, H1 b = some o → upd H1 t (.tup (tupC c)) b = some o := fun e => upd_atN ht e
  refine ⟨⟨nd, c2, fl, ts ++ [t], fs, rfl, ⟨?_, upd_same, keep (fun z => by have := hp1.hn; rw [z, hh] at this; cases this) (k1 hp1.hn), ?_, ?_, keep (Ne.symm n2) (k1 hp1.hf), hp1.len, fun i f e => keep (fun z => n3 (by rw [← z]; exact List.mem_of_getElem? e)) (k1 (hp1.ff i f e))⟩⟩, fun b o e nb => ?_, fun b m => ?_⟩
  · simp only [List.nodup_cons, List.mem_cons, not_or]
    exact ⟨⟨Ne.symm (nh c2H), n2, n3⟩, ⟨fun z => (by rw [z, hp1.hf] at c2H; cases c2H), nfs c2H⟩, n6, n7⟩
  · rw [upd_ne (nh c2H), upd_same, List.map_append]; rfl
  · exact (hp1.tp.keep fun u m o e => keep (fun z => by
      obtain ⟨c', e'⟩ := hp1.tp.tup m
      rw [z, hh] at e'; cases e') (k1 e)).snoc (keep (nh ht) upd_same)
  · simp only [hereF, List.mem_cons, not_or] at nb
    exact keep nb.1 (k1 (F1.1 _ _ e (by simp only [hereF, List.mem_cons, not_or]; exact nb)))
  · have back : ∀ {b}, b ∉ hereF h nd cl fl fs → H1 b = none → H b = none := fun {b} nm e => by
      cases e1 : H b with
      | none => rfl
      | some o => rw [F1.1 _ _ e1 nm] at e; cases e
    simp only [hereF, List.mem_cons] at m ⊢
    rcases m with rfl | rfl | rfl | rfl | m
    · exact .inl (.inl rfl)
    · exact .inl (.inr (.inl rfl))
    · refine (Classical.em (b ∈ hereF h nd cl fl fs)).elim (fun y => .inl (by simpa only [hereF, List.mem_cons] using y)) fun y => .inr (back y c2H)
    · exact .inl (.inr (.inr (.inr (.inl rfl))))
    · exact .inl (.inr (.inr (.inr (.inr m))))
section
variable {P : Program} {w : World} {K : PySem.W.Frag} {mg : Str → Option Value} {base : Heap}
set_option maxHeartbeats 20000000 in
theorem ok__law_plain (M : Nms K mg) : FnOk P w K mg base CX0 2 M.a__law_plain M.d__law_plain ["here", "row"] spPlain := by
  refine M.F__law_plain.ok sc__law_plain (fun vs H Q E h => ?_) (fun cdv A outer s H vs Q E hr h => ?_)
  · obtain ⟨h, r, fh, D, row, rfl, _⟩ := h
    rfl
  · have hu := hu1 hr
    have clD := M.clD
    have nD_kept := M.nD_kept
    have nD_late := M.nD_late
    have nD_names := M.nD_names
    have nD_sure := M.nD_sure
    have nD_changes := M.nD_changes
    have nD_next := M.nD_next
    refine ⟨_, (pss_cons (ps_set (i := 2) sc__law_plain.nd rfl (Or.inl rfl) (pe_call (ok__law_names_after M) (hr.mono (by decide)) rfl M.g__law_names_after M.k__law_names_after M.b__law_names_after .nil pass0 (pa_cons (pe_ix (r := rIxL K) ix_list (pv 0) pe_int (fun _ _ => rfl)) (pa_cons (pe_ix (r := rIxL K) ix_list (pv 0) pe_int (fun _ _ => rfl)) pa_nil))))
    (pss_cons (ps_set (i := 3) sc__law_plain.nd rfl (Or.inl rfl) (pe_ix (r := rIxT K) ix_tup (pv 1) pe_int (fun _ _ => rfl)))
    (pss_cons (ps_if (pt_cmpR op_eq (pv 3) pe_str (nomark _)) (pss_cons (ps_asg (pv 2) (pg_sub (pv 0) pe_int set_list))
    (pss_cons (ps_asg (pe_lst pa_nil) (pg_sub (pv 0) pe_int set_list))
    (pss_one (ps_ret pe_str)))) pss_nil)
    (pss_cons (ps_if (pt_cmpR op_eq (pv 3) pe_str (nomark _)) (pss_cons (ps_if (PW.pt (pw_or (pt_cmpR op_eq (pe_ix (r := rIxT K) ix_tup (pv 1) pe_int (fun _ _ => rfl)) pe_str (nomark _)) (pw_or1 (pt_cmp (pc_din hu (pe_ix (r := rIxT K) ix_tup (pv 1) pe_int (fun _ _ => rfl)) (pv 2)))))) (pss_one (ps_ret pe_str)) pss_nil)
    (pss_cons (ps_asg (pe_op op_cat (pe_ix (r := rIxL K) ix_list (pv 0) pe_int (fun _ _ => rfl)) (pe_lst (pa_cons (pe_tup (pa_cons pe_str (pa_cons (pe_ix (r := rIxT K) ix_tup (pv 1) pe_int (fun _ _ => rfl)) (pa_cons (pe_callB (id := "len") (r := fun xs H Q => ∃ x n, xs = [x] ∧ LenV K x H n ∧ Q (V.int ((n : Nat) : Int)) H) call_len (by rfl) M.T.b_len (by decide +kernel) (pa_cons (pe_ix (r := rIxL K) ix_list (pv 0) pe_int (fun _ _ => rfl)) pa_nil)) pa_nil)))) pa_nil))) (pg_sub (pv 0) pe_int set_list))
    (pss_cons (ps_asg (pe_op op_cat (pe_ix (r := rIxL K) ix_list (pv 0) pe_int (fun _ _ => rfl)) (pe_lst (pa_cons (pe_lst (pa_cons pe_str (pa_cons pe_str pa_nil))) pa_nil))) (pg_sub (pv 0) pe_int set_list))
    (pss_one (ps_ret pe_str))))) pss_nil)
    (pss_cons (ps_if (pt_cmp (pc_dnotin hu (pe_ix (r := rIxT K) ix_tup (pv 1) pe_int (fun _ _ => rfl)) (pv 2))) (pss_one (ps_ret pe_str)) pss_nil)
    (pss_cons (ps_set (i := 4) sc__law_plain.nd rfl (Or.inl rfl) (pe_ix (r := rIxL K) ix_list (pe_ix (r := rIxL K) ix_list (pv 0) pe_int (fun _ _ => rfl)) (pe_dget hu (pv 2) (pe_ix (r := rIxT K) ix_tup (pv 1) pe_int (fun _ _ => rfl)) (fun _ _ => rfl)) (fun _ _ => rfl)))
    (pss_cons (ps_if (pt_cmpR op_eq (pv 3) pe_str (nomark _)) (pss_cons (ps_if (pt_cmpR op_in_sign pe_str (pe_ix (r := rIxT K) ix_tup (pv 1) pe_int (fun _ _ => rfl)) rfl) (pss_one (ps_ret pe_str)) pss_nil)
    (pss_one (ps_asg (pe_op op_add_str (pe_ix (r := rIxL K) ix_list (pv 4) pe_int (fun _ _ => rfl)) (pe_ix (r := rIxT K) ix_tup (pv 1) pe_int (fun _ _ => rfl))) (pg_sub (pv 4) pe_int set_list)))) (pss_one (ps_if (pt_cmpR op_eq (pv 3) pe_str (nomark _)) (pss_cons (ps_asg (pe_op op_add_str (pe_ix (r := rIxL K) ix_list (pv 4) pe_int (fun _ _ => rfl)) (pe_ix (r := rIxL K) ix_list (pv 4) pe_int (fun _ _ => rfl))) (pg_sub (pv 4) pe_int set_list))
    (pss_one (ps_asg pe_str (pg_sub (pv 4) pe_int set_list)))) (pss_one (ps_if (pt_cmpR op_eq (pv 3) pe_str (nomark _)) (pss_cons (ps_if (PW.pt (pw_or (pt_cmpR op_eq (pe_ix (r := rIxT K) ix_tup (pv 1) pe_int (fun _ _ => rfl)) (pe_ix (r := rIxT K) ix_tup (pv 1) pe_int (fun _ _ => rfl)) (nomark _)) (pw_or1 (pt_cmpR op_eq (pe_ix (r := rIxT K) ix_tup (pv 1) pe_int (fun _ _ => rfl)) pe_str (nomark _))))) (pss_one (ps_ret pe_str)) pss_nil)
    (pss_one (ps_asg (pe_op op_cat (pe_ix (r := rIxL K) ix_list (pv 0) pe_int (fun _ _ => rfl)) (pe_lst (pa_cons (pe_tup (pa_cons pe_str (pa_cons (pe_ix (r := rIxT K) ix_tup (pv 1) pe_int (fun _ _ => rfl)) (pa_cons (pe_ix (r := rIxT K) ix_tup (pv 1) pe_int (fun _ _ => rfl)) pa_nil)))) pa_nil))) (pg_sub (pv 0) pe_int set_list)))) (pss_one (ps_if (pt_cmpR op_eq (pv 3) pe_str (nomark _)) (pss_one (ps_asg (pe_op op_cat (pe_ix (r := rIxL K) ix_list (pv 0) pe_int (fun _ _ => rfl)) (pe_lst (pa_cons (pe_tup (pa_cons pe_str (pa_cons (pe_ix (r := rIxT K) ix_tup (pv 1) pe_int (fun _ _ => rfl)) (pa_cons pe_int pa_nil)))) pa_nil))) (pg_sub (pv 0) pe_int set_list))) (pss_cons (ps_if (PW.pt (pw_or (pt_val (pe_callB call_isi (by rfl) M.T.b_isinstance (by decide +kernel) (pa_cons (pe_ix (r := rIxT K) ix_tup (pv 1) pe_int (fun _ _ => rfl)) (pa_cons (pe_bltn (v := .ty "bool") (u := .type "bool") (by rfl) M.T.b_bool (by decide +kernel) rfl) pa_nil)))) (pw_or1 (pt_not (pt_chain op_le op_le pe_int (pe_ix (r := rIxT K) ix_tup (pv 1) pe_int (fun _ _ => rfl)) (pe_callB (id := "len") (r := fun xs H Q => ∃ x n, xs = [x] ∧ LenV K x H n ∧ Q (V.int ((n : Nat) : Int)) H) call_len (by rfl) M.T.b_len (by decide +kernel) (pa_cons (pe_op op_add_str (pe_ix (r := rIxL K) ix_list (pv 4) pe_int (fun _ _ => rfl)) (pe_ix (r := rIxL K) ix_list (pv 4) pe_int (fun _ _ => rfl))) pa_nil))))))) (pss_one (ps_ret pe_str)) pss_nil)
    (pss_cons (ps_asg (pe_slice sl_str (pe_op op_add_str (pe_ix (r := rIxL K) ix_list (pv 4) pe_int (fun _ _ => rfl)) (pe_ix (r := rIxL K) ix_list (pv 4) pe_int (fun _ _ => rfl))) po_none (po_some (pe_ix (r := rIxT K) ix_tup (pv 1) pe_int (fun _ _ => rfl)))) (pg_sub (pv 4) pe_int set_list))
    (pss_one (ps_asg pe_str (pg_sub (pv 4) pe_int set_list))))))))))))
    (pss_one (ps_ret pe_str))))))))), ?_⟩
    try dsimp only [cxOf, Cx.nox]
    obtain ⟨h, r, fh, D, row, rfl, ⟨nd, cl, fl, ts, fs, rfl, hp⟩, wfd, sm, n1000, hrow, sm2, q⟩ := h
    refine w_start (σ' := [some (.ref h), some (.ref r), none, none, none]) rfl ?_
    have hh := hp.hh
    have hn := hp.hn
    have hc := hp.hc
    have hf := hp.hf
    have a0 : atI [V.ref nd, V.ref cl, V.ref fl] (0 : Int) = some (.ref nd) := atI_nat (j := 0) rfl
    have a1 : atI [V.ref nd, V.ref cl, V.ref fl] (1 : Int) = some (.ref cl) := atI_nat (j := 1) rfl
    have a2 : atI [V.ref nd, V.ref cl, V.ref fl] (2 : Int) = some (.ref fl) := atI_nat (j := 2) rfl
    (repeat array_get_dec)
    refine ⟨nd, cl, ts, D.sure, D.ch, rfl, hn, hc, hp.tp, wfd.ok, by have := sm.sure; have := sm.ch; omega, wfd.nd, fun p H1 s1 pH h1 => ?_⟩
    rw [← wfd.nm] at h1
    have hp1 := hp.keep (H' := H1) fun b o e _ => s1 b o e
    replace hh := hp1.hh
    replace hn := hp1.hn
    replace hc := hp1.hc
    replace hf := hp1.hf
    replace hrow := s1 _ _ hrow
    have rN := hp1.tupN r _ hrow
    simp only [hereF, List.mem_cons, not_or] at rN
    have no := hp1.no
    simp only [List.nodup_cons, List.mem_cons, not_or] at no
    obtain ⟨⟨n1, n2, n3⟩, ⟨n4, n5⟩, n6, n7⟩ := no
    have F1 : Fr (hereF h nd cl fl fs) (hereF h nd cl fl fs) H H1 := Fr.same s1
    cases row with
    | names =>
      unfold tupR at hrow
      (repeat array_get_dec)
      refine ⟨by show 0 ≤ sizeLine; decide, fun c2 hc2 => ?_⟩
      (repeat array_get_dec)
      have c2H : H1 c2 = none := (hu2 hc2).2
      have c2n : ∀ b o, H1 b = some o → b ≠ c2 := fun b o e => ne_of_none e c2H
      have f2n : ∀ f ∈ fs, f ≠ c2 := fun f m => by
        obtain ⟨i, hi⟩ := List.getElem?_of_mem m
        exact c2n f _ (hp1.ff i f hi)
      have ph : p ≠ h := fun z => by rw [z, hh] at h1; cases h1
      refine q _ (hereF h p c2 fl fs) ⟨p, c2, fl, [], fs, rfl, ⟨?_, upd_same, ?_, ?_, trivial, ?_, hp1.len, fun i f e => ?_⟩⟩ ?_
      · simp only [List.nodup_cons, List.mem_cons, not_or]
        exact ⟨⟨c2n _ _ hh, n2, n3⟩, ⟨Ne.symm (c2n _ _ hf), fun z => f2n _ z rfl⟩, n6, n7⟩
      · rw [upd_ne ph, upd_ne (c2n _ _ h1), upd_ne ph]; exact h1
      · rw [upd_ne (Ne.symm (c2n _ _ hh)), upd_same]; rfl
      · rw [upd_ne (Ne.symm n2), upd_ne (c2n _ _ hf), upd_ne (Ne.symm n2)]; exact hf
      · have mf := List.mem_of_getElem? e
        have fh : f ≠ h := fun z => n3 (by rw [← z]; exact mf)
        rw [upd_ne fh, upd_ne (f2n f mf), upd_ne fh]; exact hp1.ff i f e
      · refine ⟨fun b o e nb => ?_, fun b m => ?_⟩
        · simp only [hereF, List.mem_cons, not_or] at nb
          have e1 := s1 _ _ e
          rw [upd_ne nb.1, upd_ne (c2n _ _ e1), upd_ne nb.1]; exact e1
        · simp only [hereF, List.mem_cons] at m ⊢
          rcases m with rfl | rfl | rfl | rfl | m
          · exact .inl (.inl rfl)
          · exact .inr pH
          · refine .inr ?_
            cases e : H b with
            | none => rfl
            | some o => exact absurd rfl (c2n _ _ (s1 _ _ e))
          · exact .inl (.inr (.inr (.inr (.inl rfl))))
          · exact .inl (.inr (.inr (.inr (.inr m))))
    | make x =>
      unfold tupR at hrow
      simp only [step] at q sm2
      (repeat array_get_dec)
      refine ite2 (fun hx => ?_) (fun hx => ?_)
      · rw [if_pos (.inl (mk_nil.mp (of_decide_eq_true hx)))] at q
        (repeat array_get_dec)
        exact q _ _ ⟨nd, cl, fl, ts, fs, rfl, hp1⟩ F1
      have hx0 : ¬ x = [] := fun z => hx (decide_eq_true (mk_nil.mpr z))
      (repeat array_get_dec)
      rw [kvT_val]
      cases e : getA D.names x with
      | some i =>
        rw [if_pos (.inr (by unfold hasA; rw [e]; rfl))] at q
        refine iteT' rfl ?_
        (repeat array_get_dec)
        exact q _ _ ⟨nd, cl, fl, ts, fs, rfl, hp1⟩ F1
      | none =>
        rw [if_neg (fun z => z.elim hx0 fun y => by unfold hasA at y; rw [e] at y; cases y)] at q sm2
        refine iteF' rfl ?_
        (repeat array_get_dec)
        refine ⟨by show 3 ≤ sizeLine; decide, fun t ht => ?_⟩
        have hh2 := upd_atN (o := .tup [V.str (Str.ofString "make"), V.str (mkS x), V.int (((fs.map V.ref).length : Nat) : Int)]) ht hh
        have hc2 := upd_atN (o := .tup [V.str (Str.ofString "make"), V.str (mkS x), V.int (((fs.map V.ref).length : Nat) : Int)]) ht hc
        have lt1 : (ts.map V.ref).length ≤ 1000 := by rw [List.length_map, hp1.tp.len]; exact sm.ch
        have lf1 : (fs.map V.ref).length ≤ 1000 := by rw [List.length_map, hp1.len]; exact n1000
        (repeat array_get_dec)
        refine ⟨by show 1 ≤ sizeLine; decide, fun l1 hl1 => ?_⟩
        have z1 : (ts.map V.ref).length + [V.ref t].length ≤ sizeLine := by rw [sizeLine_eq]; simp at lt1 ⊢; omega
        have z2 : ∀ f, (fs.map V.ref).length + [V.ref f].length ≤ sizeLine := fun f => by rw [sizeLine_eq]; simp at lf1 ⊢; omega
        (repeat array_get_dec)
        intro c2 hc2
        (repeat array_get_dec)
        refine ⟨by show 2 ≤ sizeLine; decide, fun f hf1 => ?_⟩
        (repeat array_get_dec)
        refine ⟨by show 1 ≤ sizeLine; decide, fun l2 hl2 => ?_⟩
        replace z2 := z2 f
        (repeat array_get_dec)
        intro f2 hf2
        (repeat array_get_dec)
        have k1 : ∀ {b o}, H1 b = some o → upd H1 t (.tup [V.str (Str.ofString "make"), V.str (mkS x), V.int (((fs.map V.ref).length : Nat) : Int)]) b = some o := fun e => upd_atN ht e
        have cn : ∀ {b}, upd H1 t (.tup [V.str (Str.ofString "make"), V.str (mkS x), V.int (((fs.map V.ref).length : Nat) : Int)]) b = none → H1 b = none := fun {b} e => by
          cases e1 : H1 b with
          | none => rfl
          | some o => rw [k1 e1] at e; cases e
        have c2H : H1 c2 = none := cn (hu2 hc2).2
        have t1 : H1 t = none := ht
        have nh : ∀ {b}, H1 b = none → b ≠ h := fun e z => by rw [z, hh] at e; cases e
        have fH' := (hu2 (hu2 hf1).2).2
        have f2H' := (hu2 (hu2 (hu2 (hu2 hf2).2).2).2).2
        have fH : H1 f = none := cn (hu2 fH').2
        have f2H : H1 f2 = none := cn (hu2 f2H').2
        have fc2 : f ≠ c2 := (hu2 (hu2 hf1).2).1
        have f2c2 : f2 ≠ c2 := (hu2 (hu2 (hu2 (hu2 hf2).2).2).2).1
        have f2f : f2 ≠ f := (hu2 (hu2 hf2).2).1
        have f2l2 : f2 ≠ l2 := (hu2 hf2).1
        have l2c2 : l2 ≠ c2 := (hu2 (hu2 (hu2 hl2).2).2).1
        have l2f : l2 ≠ f := (hu2 hl2).1
        have ht1 : upd H1 t (.tup [V.str (Str.ofString "make"), V.str (mkS x), V.int (((fs.map V.ref).length : Nat) : Int)]) t = some (.tup [V.str (Str.ofString "make"), V.str (mkS x), V.int (((fs.map V.ref).length : Nat) : Int)]) := upd_same
        generalize hG : upd (upd _ f2 _) h _ = G
        have keep : ∀ {b o}, b ≠ h → upd H1 t (.tup [V.str (Str.ofString "make"), V.str (mkS x), V.int (((fs.map V.ref).length : Nat) : Int)]) b = some o → G b = some o := fun {b o} nb e => by
          rw [← hG]
          exact (upd_ne nb).trans (upd_atN hf2 (upd_atN hl2 (upd_atN hf1 ((upd_ne nb).trans (upd_atN hc2 (upd_atN hl1 e))))))
        have nfs : ∀ {b}, H1 b = none → b ∉ fs := fun e m => by
          obtain ⟨i, hi⟩ := List.getElem?_of_mem m
          rw [hp1.ff i _ hi] at e; cases e
        have tp2 := hp1.tp.keep (H' := G) fun u m o e => keep (fun z => by
          obtain ⟨c', e'⟩ := hp1.tp.tup m
          rw [z, hh] at e'; cases e') (k1 e)
        refine q _ (hereF h nd c2 f2 (fs ++ [f])) ⟨nd, c2, f2, ts ++ [t], fs ++ [f], rfl, ⟨?_, by rw [← hG, upd_same]; rfl, keep (fun z => by rw [z, hh] at hn; cases hn) (k1 hn), ?_, ?_, ?_, ?_, fun i g e => ?_⟩⟩ ?_
        · have d1 := nh c2H
          have d2 := nh f2H
          have d3 := nh fH
          have d4 := nfs c2H
          have d5 := nfs f2H
          have d6 := nfs fH
          simp only [List.nodup_cons, List.mem_cons, List.mem_append, List.nodup_append, List.not_mem_nil, or_false, not_or]
          exact ⟨⟨Ne.symm d1, Ne.symm d2, n3, Ne.symm d3⟩, ⟨Ne.symm f2c2, d4, Ne.symm fc2⟩, ⟨d5, f2f⟩, n7, ⟨not_false, List.nodup_nil⟩, fun a ha b hb z => d6 (by rw [← hb, ← z]; exact ha)⟩
        · rw [← hG, upd_ne (nh c2H), upd_ne (Ne.symm f2c2), upd_ne (Ne.symm l2c2), upd_ne (Ne.symm fc2), upd_ne (nh c2H), upd_same, List.map_append]; rfl
        · refine tp2.snoc (keep (nh t1) ?_)
          rw [ht1, List.length_map, hp1.len]
          rfl
        · rw [← hG, upd_ne (nh f2H), upd_same, List.map_append]; rfl
        · rw [List.length_append, hp1.len]; rfl
        · have kD : ∀ j, keptD (makeD D x) j = if j = D.next then [] else keptD D j := fun j => getD_put
          have lD : ∀ j, lateD (makeD D x) j = if j = D.next then [] else lateD D j := fun j => getD_put
          rw [kD, lD]
          by_cases ei : i < fs.length
          · rw [List.getElem?_append_left ei] at e
            have ne : i ≠ D.next := by rw [← hp1.len]; omega
            rw [if_neg ne, if_neg ne]
            exact keep (fun z => n3 (by rw [← z]; exact List.mem_of_getElem? e)) (k1 (hp1.ff i g e))
          · have ei2 : i = fs.length := by
              have := (List.getElem?_eq_some_iff.mp e).1
              rw [List.length_append] at this
              simp at this
              omega
            subst ei2
            rw [List.getElem?_append_right (Nat.le_refl _), Nat.sub_self] at e
            cases e
            rw [if_pos hp1.len, if_pos hp1.len, ← hG, upd_ne (nh fH), upd_ne (Ne.symm f2f), upd_ne (Ne.symm l2f), upd_same]
            rfl
        · have back : ∀ {b}, H1 b = none → H b = none := fun {b} e => by
            cases e1 : H b with
            | none => rfl
            | some o => rw [s1 _ _ e1] at e; cases e
          refine ⟨fun b o e nb => ?_, fun b m => ?_⟩
          · simp only [hereF, List.mem_cons, not_or] at nb
            exact keep nb.1 (k1 (s1 _ _ e))
          · simp only [hereF, List.mem_cons, List.mem_append, List.not_mem_nil, or_false] at m ⊢
            rcases m with rfl | rfl | rfl | rfl | m | rfl
            · exact .inl (.inl rfl)
            · exact .inl (.inr (.inl rfl))
            · exact .inr (back c2H)
            · exact .inr (back f2H)
            · exact .inl (.inr (.inr (.inr (.inr m))))
            · exact .inr (back fH)
    | write x t =>
      unfold tupR at hrow
      simp only [step] at q sm2
      (repeat array_get_dec)
      have e1 := kvT_val D.names x
      rw [e1]
      cases e : getA D.names x with
      | none =>
        simp only [e] at q
        (repeat array_get_dec)
        exact q _ _ ⟨nd, cl, fl, ts, fs, rfl, hp1⟩ F1
      | some i =>
        simp only [e] at q sm2
        rw [e] at e1
        have e1 : valV (kvT D.names) (Sum.inr (mkS x)) = some (.int ((i : Nat) : Int)) := e1
        have lti : i < fs.length := by rw [hp1.len]; exact wfd.numN' e
        have hfi : fs[i]? = some fs[i] := List.getElem?_eq_getElem lti
        have ff := hp1.ff i _ hfi
        obtain ⟨t0, u, g1, g2, b1, b2, er, eu, ek⟩ := texts_at wfd sm e
        rw [ek, eu] at ff
        have af : atI (fs.map V.ref) (i : Int) = some (.ref fs[i]) := atI_nat (by rw [List.getElem?_map, hfi]; rfl)
        have c0 : atI [sv t0, sv u] (0 : Int) = some (sv t0) := atI_nat (j := 0) rfl
        have c1 : atI [sv t0, sv u] (1 : Int) = some (sv u) := atI_nat (j := 1) rfl
        have frF : ∀ t u : Tx, Fr (hereF h nd cl fl fs) (hereF h nd cl fl fs) H (upd H1 fs[i] (.lst [sv t, sv u])) := fun t u => F1.put (by simp [hereF])
        (repeat array_get_dec)
        refine ⟨63, mkS t, rfl, rfl, ?_⟩
        by_cases h63 : 63 ∈ t
        · rw [if_pos h63] at q
          refine ⟨_, rfl, ?_⟩
          refine iteT' (decide_eq_true h63) ?_
          (repeat array_get_dec)
          exact q _ _ ⟨nd, cl, fl, ts, fs, rfl, hp1⟩ F1
        · rw [if_neg h63] at q sm2
          refine ⟨_, rfl, ?_⟩
          refine iteF' (decide_eq_false h63) ?_
          have es : writeD D i t = { D with late := putA D.late i (u ++ t) } := by
            show ({ D with late := putA D.late i (lateD D i ++ t) } : DS) = _
            rw [eu]
          rw [es] at q sm2
          have hlen : (u ++ t).length ≤ 400000 := sm2.lt (i, u ++ t) (getA_mem (by rw [getA_put, if_pos rfl]))
          rw [List.length_append] at hlen
          (repeat array_get_dec)
          refine w_addS (fit_add (s := mkS u) (t := mkS t) (a := u.length) (b := t.length) (Nat.le_of_eq (len_tl _)) (Nat.le_of_eq (len_tl _)) (by omega)) ?_
          rw [mkS_app]
          (repeat array_get_dec)
          exact q _ _ ⟨nd, cl, fl, ts, fs, rfl, hp1.file (t := t0) (u := u ++ t) hfi rfl rfl rfl ek (by unfold lateD; rw [getD_put, if_pos rfl]) fun j ne => ⟨rfl, by unfold lateD; rw [getD_put, if_neg ne]⟩⟩ (frF _ _)
    | sync x =>
      unfold tupR at hrow
      simp only [step] at q sm2
      (repeat array_get_dec)
      have e1 := kvT_val D.names x
      rw [e1]
      cases e : getA D.names x with
      | none =>
        simp only [e] at q
        (repeat array_get_dec)
        exact q _ _ ⟨nd, cl, fl, ts, fs, rfl, hp1⟩ F1
      | some i =>
        simp only [e] at q sm2
        rw [e] at e1
        have e1 : valV (kvT D.names) (Sum.inr (mkS x)) = some (.int ((i : Nat) : Int)) := e1
        have lti : i < fs.length := by rw [hp1.len]; exact wfd.numN' e
        have hfi : fs[i]? = some fs[i] := List.getElem?_eq_getElem lti
        have ff := hp1.ff i _ hfi
        obtain ⟨t0, u, g1, g2, b1, b2, er, eu, ek⟩ := texts_at wfd sm e
        rw [ek, eu] at ff
        have af : atI (fs.map V.ref) (i : Int) = some (.ref fs[i]) := atI_nat (by rw [List.getElem?_map, hfi]; rfl)
        have c0 : atI [sv t0, sv u] (0 : Int) = some (sv t0) := atI_nat (j := 0) rfl
        have c1 : atI [sv t0, sv u] (1 : Int) = some (sv u) := atI_nat (j := 1) rfl
        have frF : ∀ t u : Tx, Fr (hereF h nd cl fl fs) (hereF h nd cl fl fs) H (upd H1 fs[i] (.lst [sv t, sv u])) := fun t u => F1.put (by simp [hereF])
        have es : syncD D i = { D with kept := putA D.kept i (t0 ++ u), late := putA D.late i [] } := by
          show ({ D with kept := putA D.kept i (readD D i), late := putA D.late i [] } : DS) = _
          rw [er]
        rw [es] at q sm2
        (repeat array_get_dec)
        refine w_addS (fit_add (s := mkS t0) (t := mkS u) (a := t0.length) (b := u.length) (Nat.le_of_eq (len_tl _)) (Nat.le_of_eq (len_tl _)) (by omega)) ?_
        rw [mkS_app]
        (repeat array_get_dec)
        refine q _ _ ⟨nd, cl, fl, ts, fs, rfl, ?_⟩ ?_
        · have p1 := hp1.file (D' := { D with kept := putA D.kept i (t0 ++ u) }) (t := t0 ++ u) (u := u) hfi rfl rfl rfl (by unfold keptD; rw [getD_put, if_pos rfl]) eu fun j ne => ⟨by unfold keptD; rw [getD_put, if_neg ne], rfl⟩
          exact p1.file (D' := { D with kept := putA D.kept i (t0 ++ u), late := putA D.late i [] }) (t := t0 ++ u) (u := []) hfi rfl rfl rfl (by unfold keptD; rw [getD_put, if_pos rfl]) (by unfold lateD; rw [getD_put, if_pos rfl]) fun j ne => ⟨rfl, by unfold lateD; rw [getD_put, if_neg ne]⟩
        · exact (F1.put (by simp [hereF])).put (by simp [hereF])
    | move x y =>
      unfold tupR at hrow
      simp only [step] at q sm2
      (repeat array_get_dec)
      have e1 := kvT_val D.names x
      rw [e1]
      cases e : getA D.names x with
      | none =>
        simp only [e] at q
        (repeat array_get_dec)
        exact q _ _ ⟨nd, cl, fl, ts, fs, rfl, hp1⟩ F1
      | some i =>
        simp only [e] at q sm2
        rw [e] at e1
        have e1 : valV (kvT D.names) (Sum.inr (mkS x)) = some (.int ((i : Nat) : Int)) := e1
        have lti : i < fs.length := by rw [hp1.len]; exact wfd.numN' e
        have hfi : fs[i]? = some fs[i] := List.getElem?_eq_getElem lti
        have ff := hp1.ff i _ hfi
        obtain ⟨t0, u, g1, g2, b1, b2, er, eu, ek⟩ := texts_at wfd sm e
        rw [ek, eu] at ff
        have af : atI (fs.map V.ref) (i : Int) = some (.ref fs[i]) := atI_nat (by rw [List.getElem?_map, hfi]; rfl)
        have c0 : atI [sv t0, sv u] (0 : Int) = some (sv t0) := atI_nat (j := 0) rfl
        have c1 : atI [sv t0, sv u] (1 : Int) = some (sv u) := atI_nat (j := 1) rfl
        have frF : ∀ t u : Tx, Fr (hereF h nd cl fl fs) (hereF h nd cl fl fs) H (upd H1 fs[i] (.lst [sv t, sv u])) := fun t u => F1.put (by simp [hereF])
        (repeat array_get_dec)
        refine ite2 (fun hx => ?_) (fun hx => ?_)
        · have hx' : x = y := mkS_inj' (V.str.inj (of_decide_eq_true hx))
          rw [if_pos (.inl hx')] at q
          (repeat array_get_dec)
          exact q _ _ ⟨nd, cl, fl, ts, fs, rfl, hp1⟩ F1
        · have hx' : ¬ x = y := fun z => hx (decide_eq_true (by rw [z]))
          (repeat array_get_dec)
          refine ite2 (fun hy => ?_) (fun hy => ?_)
          · rw [if_pos (.inr (mk_nil.mp (of_decide_eq_true hy)))] at q
            (repeat array_get_dec)
            exact q _ _ ⟨nd, cl, fl, ts, fs, rfl, hp1⟩ F1
          · rw [if_neg (fun z => z.elim hx' fun v => hy (decide_eq_true (mk_nil.mpr v)))] at q sm2
            (repeat array_get_dec)
            refine ⟨by show 3 ≤ sizeLine; decide, fun t ht => ?_⟩
            have hh2 := upd_atN (o := .tup (tupC (.move x y))) ht hh
            have hc2 := upd_atN (o := .tup (tupC (.move x y))) ht hc
            have lt1 : (ts.map V.ref).length ≤ 1000 := by rw [List.length_map, hp1.tp.len]; exact sm.ch
            unfold tupC at hh2 hc2
            (repeat array_get_dec)
            refine ⟨by show 1 ≤ sizeLine; decide, fun l1 hl1 => ?_⟩
            have z1 : (ts.map V.ref).length + [V.ref t].length ≤ sizeLine := by rw [sizeLine_eq]; simp at lt1 ⊢; omega
            (repeat array_get_dec)
            intro c2 hc2
            (repeat array_get_dec)
            obtain ⟨a1, a2⟩ := chEnd (c := .move x y) (t := t) (l1 := l1) (c2 := c2) hp1 F1 ht hl1 hc2
            exact q _ _ a1 a2
    | drop x =>
      unfold tupR at hrow
      simp only [step] at q sm2
      (repeat array_get_dec)
      have e1 := kvT_val D.names x
      rw [e1]
      cases e : getA D.names x with
      | none =>
        simp only [e] at q
        (repeat array_get_dec)
        exact q _ _ ⟨nd, cl, fl, ts, fs, rfl, hp1⟩ F1
      | some i =>
        simp only [e] at q sm2
        rw [e] at e1
        have e1 : valV (kvT D.names) (Sum.inr (mkS x)) = some (.int ((i : Nat) : Int)) := e1
        have lti : i < fs.length := by rw [hp1.len]; exact wfd.numN' e
        have hfi : fs[i]? = some fs[i] := List.getElem?_eq_getElem lti
        have ff := hp1.ff i _ hfi
        obtain ⟨t0, u, g1, g2, b1, b2, er, eu, ek⟩ := texts_at wfd sm e
        rw [ek, eu] at ff
        have af : atI (fs.map V.ref) (i : Int) = some (.ref fs[i]) := atI_nat (by rw [List.getElem?_map, hfi]; rfl)
        have c0 : atI [sv t0, sv u] (0 : Int) = some (sv t0) := atI_nat (j := 0) rfl
        have c1 : atI [sv t0, sv u] (1 : Int) = some (sv u) := atI_nat (j := 1) rfl
        have frF : ∀ t u : Tx, Fr (hereF h nd cl fl fs) (hereF h nd cl fl fs) H (upd H1 fs[i] (.lst [sv t, sv u])) := fun t u => F1.put (by simp [hereF])
        (repeat array_get_dec)
        refine ⟨by show 3 ≤ sizeLine; decide, fun t ht => ?_⟩
        have hh2 := upd_atN (o := .tup (tupC (.drop x))) ht hh
        have hc2 := upd_atN (o := .tup (tupC (.drop x))) ht hc
        have lt1 : (ts.map V.ref).length ≤ 1000 := by rw [List.length_map, hp1.tp.len]; exact sm.ch
        unfold tupC at hh2 hc2
        (repeat array_get_dec)
        refine ⟨by show 1 ≤ sizeLine; decide, fun l1 hl1 => ?_⟩
        have z1 : (ts.map V.ref).length + [V.ref t].length ≤ sizeLine := by rw [sizeLine_eq]; simp at lt1 ⊢; omega
        (repeat array_get_dec)
        intro c2 hc2
        (repeat array_get_dec)
        obtain ⟨a1, a2⟩ := chEnd (c := .drop x) (t := t) (l1 := l1) (c2 := c2) hp1 F1 ht hl1 hc2
        exact q _ _ a1 a2
    | cut x v =>
      unfold tupR at hrow
      simp only [step] at q sm2
      (repeat array_get_dec)
      have e1 := kvT_val D.names x
      rw [e1]
      cases e : getA D.names x with
      | none =>
        simp only [e] at q
        (repeat array_get_dec)
        exact q _ _ ⟨nd, cl, fl, ts, fs, rfl, hp1⟩ F1
      | some i =>
        simp only [e] at q sm2
        rw [e] at e1
        have e1 : valV (kvT D.names) (Sum.inr (mkS x)) = some (.int ((i : Nat) : Int)) := e1
        have lti : i < fs.length := by rw [hp1.len]; exact wfd.numN' e
        have hfi : fs[i]? = some fs[i] := List.getElem?_eq_getElem lti
        have ff := hp1.ff i _ hfi
        obtain ⟨t0, u, g1, g2, b1, b2, er, eu, ek⟩ := texts_at wfd sm e
        rw [ek, eu] at ff
        have af : atI (fs.map V.ref) (i : Int) = some (.ref fs[i]) := atI_nat (by rw [List.getElem?_map, hfi]; rfl)
        have c0 : atI [sv t0, sv u] (0 : Int) = some (sv t0) := atI_nat (j := 0) rfl
        have c1 : atI [sv t0, sv u] (1 : Int) = some (sv u) := atI_nat (j := 1) rfl
        have frF : ∀ t u : Tx, Fr (hereF h nd cl fl fs) (hereF h nd cl fl fs) H (upd H1 fs[i] (.lst [sv t, sv u])) := fun t u => F1.put (by simp [hereF])
        have lr : (t0 ++ u).length ≤ 800000 := by rw [List.length_append]; omega
        have hz : (mkS (t0 ++ u)).length ≤ sizeLine := by rw [sizeLine_eq, len_tl]; show (t0 ++ u).length ≤ _; omega
        rw [er] at q sm2
        cases v with
        | bl b =>
          unfold vIB at hrow
          (repeat array_get_dec)
          exact q _ _ ⟨nd, cl, fl, ts, fs, rfl, hp1⟩ F1
        | int i0 =>
          unfold vIB at hrow
          (repeat array_get_dec)
          have no : ¬ (0 ≤ i0 ∧ i0 ≤ ((t0 ++ u).length : Int)) → Q (resV .paper) H1 := fun z => by
            have em : inIB (t0 ++ u).length (.int i0) = none := if_neg z
            simp only [em] at q
            exact q _ _ ⟨nd, cl, fl, ts, fs, rfl, hp1⟩ F1
          by_cases h0 : 0 ≤ i0
          · refine iteT' (decide_eq_true h0) ?_
            (repeat array_get_dec)
            refine w_addS (fit_add (s := mkS t0) (t := mkS u) (a := t0.length) (b := u.length) (Nat.le_of_eq (len_tl _)) (Nat.le_of_eq (len_tl _)) (by omega)) ?_
            rw [mkS_app]
            (repeat array_get_dec)
            rw [len_tl]
            by_cases h1 : i0 ≤ ((t0 ++ u).length : Int)
            · obtain ⟨j, rfl⟩ : ∃ j : Nat, i0 = (j : Int) := ⟨i0.toNat, (Int.toNat_of_nonneg h0).symm⟩
              have em : inIB (t0 ++ u).length (.int (j : Int)) = some j := by
                show (if 0 ≤ (j : Int) ∧ (j : Int) ≤ ((t0 ++ u).length : Int) then some (j : Int).toNat else none) = _
                rw [if_pos ⟨h0, h1⟩, Int.toNat_natCast]
              simp only [em] at q sm2
              refine iteF' (by rw [show decide ((j : Int) ≤ (((tl (mkS (t0 ++ u))).length : Nat) : Int)) = true from decide_eq_true h1]; rfl) ?_
              (repeat array_get_dec)
              refine w_addS (fit_add (s := mkS t0) (t := mkS u) (a := t0.length) (b := u.length) (Nat.le_of_eq (len_tl _)) (Nat.le_of_eq (len_tl _)) (by omega)) ?_
              rw [mkS_app]
              (repeat array_get_dec)
              rw [cut_pre]
              (repeat array_get_dec)
              have es : cutD D i j = { D with kept := putA D.kept i ((t0 ++ u).take j), late := putA D.late i [] } := by
                show ({ D with kept := putA D.kept i ((readD D i).take j), late := putA D.late i [] } : DS) = _
                rw [er]
              rw [es] at q
              refine q _ _ ⟨nd, cl, fl, ts, fs, rfl, ?_⟩ ?_
              · have p1 := hp1.file (D' := { D with kept := putA D.kept i ((t0 ++ u).take j) }) (t := (t0 ++ u).take j) (u := u) hfi rfl rfl rfl (by unfold keptD; rw [getD_put, if_pos rfl]) eu fun j ne => ⟨by unfold keptD; rw [getD_put, if_neg ne], rfl⟩
                exact p1.file (D' := { D with kept := putA D.kept i ((t0 ++ u).take j), late := putA D.late i [] }) (t := (t0 ++ u).take j) (u := []) hfi rfl rfl rfl (by unfold keptD; rw [getD_put, if_pos rfl]) (by unfold lateD; rw [getD_put, if_pos rfl]) fun j ne => ⟨rfl, by unfold lateD; rw [getD_put, if_neg ne]⟩
              · exact (F1.put (by simp [hereF])).put (by simp [hereF])
            · refine iteT' (by rw [show decide (i0 ≤ (((tl (mkS (t0 ++ u))).length : Nat) : Int)) = false from decide_eq_false h1]; rfl) ?_
              (repeat array_get_dec)
              exact no fun z => h1 z.2
          · refine iteF' (decide_eq_false h0) ?_
            refine ⟨_, rfl, ?_⟩
            (repeat array_get_dec)
            exact no fun z => h0 z.1
end
end K50

namespace K50
open PySem PySem.Spec PyProof.Rows L2
local macro_rules | `(tactic| array_mem_dec) => `(tactic| first | with_reducible assumption | with_reducible exact upd_same | ((with_reducible apply same_at); (with_reducible assumption); array_mem_dec) | ((with_reducible apply upd_atN); (with_reducible assumption); array_mem_dec) | ((with_reducible apply upd_at); (first | with_reducible assumption | (apply Ne.symm; with_reducible assumption)); array_mem_dec))
local macro_rules | `(tactic| array_get_dec) => `(tactic| first | (with_reducible refine w_seq ?_) | (with_reducible refine w_asg ?_) | (with_reducible refine w_drop ?_) | (with_reducible refine w_ret ?_) | (with_reducible refine w_retN ?_) | (with_reducible refine w_next ?_) | (with_reducible refine w_break ?_) | (with_reducible refine w_cont ?_) | (with_reducible refine w_ifS ?_) | (with_reducible refine w_sub ?_) | (with_reducible refine w_c ?_) | (with_reducible refine w_op ?_) | (with_reducible refine w_un ?_) | (with_reducible refine w_test ?_) | (with_reducible refine w_B ?_) | (with_reducible refine w_yes ?_) | (with_reducible refine w_not ?_) | (with_reducible refine w_and ?_) | (with_reducible refine w_or ?_) | (with_reducible refine w_andV ?_) | (with_reducible refine w_orV ?_) | (with_reducible refine w_notV ?_) | (with_reducible refine w_ifE ?_) | (with_reducible refine w_nil ?_) | (with_reducible refine w_cons ?_) | (with_reducible refine w_call ?_) | (with_reducible refine w_callS ?_) | (with_reducible refine w_cB ?_) | (with_reducible refine w_lst ?_) | (with_reducible refine w_tup ?_) | (with_reducible refine w_sl ?_) | (with_reducible refine w_noPart ?_) | (with_reducible refine w_part ?_) | (with_reducible refine w_bm ?_) | (with_reducible refine w_bm0 ?_) | (with_reducible refine w_strTy ?_) | (with_reducible refine w_bl ?_) | (with_reducible refine w_int1 ?_) | (with_reducible refine w_str1 ?_) | (with_reducible refine w_rI0 ?_) | (with_reducible refine w_rU ?_) | (with_reducible refine w_eqI ?_) | (with_reducible refine w_eqS ?_) | (with_reducible refine w_neI ?_) | (with_reducible refine w_neS ?_) | (with_reducible refine w_bl2 ?_) | (with_reducible refine w_isN ?_) | (with_reducible refine w_for ?_) | (with_reducible refine w_iRng1 ?_) | (with_reducible refine w_iRng2 ?_) | (with_reducible refine w_iList ?_) | (with_reducible refine w_iTup ?_) | (with_reducible refine w_iStr ?_) | (with_reducible refine w_lc ?_) | (with_reducible refine w_M1 ?_) | (with_reducible refine w_M0 ?_) | (with_reducible refine w_isS ?_) | ((with_reducible apply w_name); (simp only [wipe, List.map_cons, List.map_nil, List.foldl_cons, List.foldl_nil, List.set_cons_zero, List.set_cons_succ]; exact rfl)) | ((with_reducible apply w_var); exact rfl) | ((with_reducible apply w_lstTy); array_mem_dec) | ((with_reducible apply w_lenL); array_mem_dec) | ((with_reducible apply w_lenT); array_mem_dec) | ((with_reducible apply w_listOf); array_mem_dec) | ((with_reducible apply w_lenS); (first | (with_reducible assumption) | omega | (rw [sizeLine_eq]; omega))) | ((with_reducible apply w_slS); (first | (with_reducible assumption) | omega | (rw [sizeLine_eq]; omega))) | ((with_reducible apply w_wipe); exact rfl) | ((with_reducible apply w_acc); array_mem_dec; (try (first | (with_reducible assumption) | omega | (rw [sizeLine_eq]; omega)))) | ((with_reducible apply w_itl); array_mem_dec) | ((with_reducible apply w_itt); array_mem_dec) | ((with_reducible apply w_append); array_mem_dec; (try (first | (with_reducible assumption) | omega | (rw [sizeLine_eq]; omega)))) | ((with_reducible apply w_rng1); (first | (with_reducible assumption) | omega); (first | (with_reducible assumption) | omega)) | ((with_reducible apply w_ixL); array_mem_dec; (first | (with_reducible assumption) | exact rfl | (apply atI_nat; (with_reducible assumption)) | exact atI_last _ _)) | ((with_reducible apply w_ixT); array_mem_dec; (first | (with_reducible assumption) | exact rfl | (apply atI_nat; (with_reducible assumption)) | exact atI_last _ _)) | ((with_reducible apply w_iT); first | exact rfl | (with_reducible assumption)) | ((with_reducible apply w_iF); first | exact rfl | (with_reducible assumption)) | ((with_reducible apply w_isiI (b := true)); decide +kernel) | ((with_reducible apply w_isiI (b := false)); decide +kernel) | ((with_reducible apply w_isiB (b := true)); decide +kernel) | ((with_reducible apply w_isiB (b := false)); decide +kernel) | ((with_reducible apply w_isiS (b := true)); decide +kernel) | ((with_reducible apply w_isiS (b := false)); decide +kernel) | ((with_reducible apply w_isiN (b := true)); decide +kernel) | ((with_reducible apply w_isiN (b := false)); decide +kernel) | ((with_reducible apply w_isiL (b := true)); array_mem_dec; decide +kernel) | ((with_reducible apply w_isiL (b := false)); array_mem_dec; decide +kernel) | ((with_reducible apply w_isiT (b := true)); array_mem_dec; decide +kernel) | ((with_reducible apply w_isiT (b := false)); array_mem_dec; decide +kernel) | (with_reducible refine w_notT ?_) | (with_reducible refine w_chain ?_) | ((with_reducible apply w_trL); array_mem_dec) | ((with_reducible apply w_gTup); array_mem_dec; exact rfl) | ((with_reducible apply w_gLst); array_mem_dec; exact rfl) | (with_reducible refine w_gCons ?_) | (with_reducible refine w_gNil ?_) | (with_reducible refine w_Fld ?_) | (with_reducible refine w_sFld ?_) | (with_reducible refine w_dget ?_) | (with_reducible refine w_dIn ?_) | (with_reducible refine w_dNotIn ?_) | (with_reducible refine w_sDPut ?_) | (with_reducible refine w_dnewK ?_) | (with_reducible refine w_meth ?_) | (with_reducible refine w_make ?_) | (with_reducible refine w_methS ?_) | (with_reducible refine w_makeS ?_) | (with_reducible refine w_dpop ?_) | ((with_reducible apply w_fld1); array_mem_dec; (with_reducible assumption); (with_reducible assumption); exact rfl) | ((with_reducible apply w_sfld1); array_mem_dec; (with_reducible assumption); (with_reducible assumption); exact Nat.le_of_ble_eq_true rfl) | ((with_reducible apply w_meth1); array_mem_dec; exact rfl) | ((with_reducible apply w_dgetS); array_mem_dec; (with_reducible assumption)) | ((with_reducible apply w_dgetI); array_mem_dec; (with_reducible assumption)) | ((with_reducible apply w_dinS); array_mem_dec) | ((with_reducible apply w_dputI); array_mem_dec; (try (first | (with_reducible assumption) | omega | (rw [sizeLine_eq]; omega)))) | ((with_reducible apply w_dputS); array_mem_dec; (try (first | (with_reducible assumption) | omega | (rw [sizeLine_eq]; omega)))) | ((with_reducible apply w_isD); array_mem_dec) | ((with_reducible apply w_dictD); array_mem_dec) | ((with_reducible apply w_dpopS); array_mem_dec; (with_reducible assumption)) | ((with_reducible apply w_setL); array_mem_dec; exact rfl) | ((with_reducible apply w_cat); array_mem_dec; array_mem_dec; (try (first | (with_reducible assumption) | omega | (rw [sizeLine_eq]; omega)))) | (with_reducible refine w_iKeys ?_) | (with_reducible refine w_dget2 ?_) | (with_reducible refine w_scX ?_) | ((with_reducible apply w_keysF); array_mem_dec) | ((with_reducible apply w_dgetSF); array_mem_dec; (with_reducible assumption)))
/-! ### the law's tries -/
def spDo (CD : Addr) : Sp := fun vs H Q _ => ∃ (a r : Addr) (fp : List Addr) (D : DS) (row : Row), vs = [.ref a, .ref r] ∧ DiskAt CD H a fp D ∧ H r = some (.tup (tupR row)) ∧ bd (step D row).1 ∧
  ∀ H' fp', DiskAt CD H' a fp' (step D row).1 → Fr fp fp' H H' → Q (resV (step D row).2) H'
def spLCut (CD : Addr) : Sp := fun vs H Q _ => ∃ (a : Addr) (fp : List Addr) (D : DS) (ch : IB) (c : Addr) (ts : List Addr) (trs : List Tear), vs = [.ref a, vIB ch, .ref c] ∧ DiskAt CD H a fp D ∧ H c = some (.lst (ts.map V.ref)) ∧ TeAt H ts trs ∧ trs.length < 64 ∧ c ∉ fp ∧
  (∀ t ∈ trs, ∀ k ∈ nameT t, k < 1114112) ∧
  (okTears D ch trs → ∀ k, inIB D.ch.length ch = some k → bd (foundD D k (toldD D trs)) ∧ ∀ b H' fp', DiskAt CD H' b fp' (foundD D k (toldD D trs)) → Same H H' → (∀ c ∈ fp', H c = none) → Q (.ref b) H') ∧ (¬ okTears D ch trs → ∀ H', Same H H' → Q (.str (Str.ofString "paper")) H')
section
variable {P : Program} {w : World} {K : PySem.W.Frag} {mg : Str → Option Value} {base : Heap}
def tsB (M : Nms K mg) (i : Nat) : Addr → Value → Option Addr → TS := fun a cls d D σ H => ∃ b : Bool, (cls = .ref (cond b M.CP M.CU) ∧ d = none) ∧ tRet (fun σ H Q => σ[i]? = some (some (.ref a)) ∧ ∀ H', Same H H' → Q (refS b) H') D σ H
theorem caught (M : Nms K mg) {i : Nat} (b : Bool) {σ : L2.St} {D : Ends} {H' : Hp} (hl : i < σ.length) (q : ∀ H2, Same H' H2 → D.rt (refS b) H2) : WE (wAs K (.ref M.CE) i (tsB M i) (fun _ _ _ _ => False) D) σ (.ref (cond b M.CP M.CU)) none H' :=
  ⟨true, by cases b; exact M.YU.exm; exact M.YP.exm, fun _ a ha => ⟨b, ⟨rfl, rfl⟩, List.getElem?_set_self hl, q⟩, fun z => by cases z⟩
theorem finCaught (M : Nms K mg) {i : Nat} {σ : L2.St} {D : Ends} {H' : Hp} {res : Res} {Q : VK} (hl : i < σ.length) (q0 : res = .done → Q .non H') (q : ∀ H2, Same H' H2 → res ≠ .done → D.rt (resV res) H2) :
    finR M.CP M.CU res Q (WE (wAs K (.ref M.CE) i (tsB M i) (fun _ _ _ _ => False) D) σ) H' := by
  cases res with
  | done => exact q0 rfl
  | paper => exact caught M true hl fun H2 s => q H2 s (by decide)
  | unknown => exact caught M false hl fun H2 s => q H2 s (by decide)
theorem ok__law_do (M : Nms K mg) : FnOk P w K mg base CX0 4 M.a__law_do M.d__law_do ["disk", "row"] (spDo M.CD) := by
  refine M.F__law_do.ok sc__law_do (fun vs H Q E h => ?_) (fun cdv A outer s H vs Q E hr h => ?_)
  · obtain ⟨a, r, fp, D, row, rfl, _⟩ := h
    rfl
  · have hu := hu1 hr
    have clD := M.clD
    have nD_kept := M.nD_kept
    have nD_late := M.nD_late
    have nD_names := M.nD_names
    have nD_sure := M.nD_sure
    have nD_changes := M.nD_changes
    have nD_next := M.nD_next
    refine ⟨_, pss_cons (L2N.ps_try_as (i := 2) (tb := fun W => (tIfS (tTest (tOp rEq (tOp (rIxT K) (tVar 1) (tC (.int 0))) (tC (.str (Str.ofString "make"))))) (tDrop (tMethS M.CD "make" (spMake M.CD M.CP M.CU) (WE W) (tVar 0) (tCons (tOp (rIxT K) (tVar 1) (tC (.int 1))) tNil))) (tIfS (tTest (tOp rEq (tOp (rIxT K) (tVar 1) (tC (.int 0))) (tC (.str (Str.ofString "write"))))) (tDrop (tMethS M.CD "write" (spWrite M.CD M.CP M.CU) (WE W) (tVar 0) (tCons (tOp (rIxT K) (tVar 1) (tC (.int 1))) (tCons (tOp (rIxT K) (tVar 1) (tC (.int 2))) tNil)))) (tIfS (tTest (tOp rEq (tOp (rIxT K) (tVar 1) (tC (.int 0))) (tC (.str (Str.ofString "sync"))))) (tDrop (tMethS M.CD "sync" (spSync M.CD M.CP M.CU) (WE W) (tVar 0) (tCons (tOp (rIxT K) (tVar 1) (tC (.int 1))) tNil))) (tIfS (tTest (tOp rEq (tOp (rIxT K) (tVar 1) (tC (.int 0))) (tC (.str (Str.ofString "names"))))) (tDrop (tMeth M.CD "sync_names" (spSyncN M.CD M.CP M.CU) [] E0 (tVar 0) tNil)) (tIfS (tTest (tOp rEq (tOp (rIxT K) (tVar 1) (tC (.int 0))) (tC (.str (Str.ofString "move"))))) (tDrop (tMethS M.CD "move" (spMove M.CD M.CP M.CU) (WE W) (tVar 0) (tCons (tOp (rIxT K) (tVar 1) (tC (.int 1))) (tCons (tOp (rIxT K) (tVar 1) (tC (.int 2))) tNil)))) (tIfS (tTest (tOp rEq (tOp (rIxT K) (tVar 1) (tC (.int 0))) (tC (.str (Str.ofString "remove"))))) (tDrop (tMethS M.CD "remove" (spRemove M.CD M.CP M.CU) (WE W) (tVar 0) (tCons (tOp (rIxT K) (tVar 1) (tC (.int 1))) tNil))) (tDrop (tMethS M.CD "cut" (spCut M.CD M.CP M.CU) (WE W) (tVar 0) (tCons (tOp (rIxT K) (tVar 1) (tC (.int 1))) (tCons (tOp (rIxT K) (tVar 1) (tC (.int 2))) tNil))))))))))) (ts := tsB M 2) (Wout := fun _ _ _ _ => False)
        rfl rfl sc__law_do.nd rfl rfl ⟨rfl, by decide, .inl M.YP.gD⟩ takes0N
        (fun W pn xe tk _ => (pss_one (ps_if (pt_cmpR op_eq (pe_ix (r := rIxT K) ix_tup (pv 1) pe_int (fun _ _ => rfl)) pe_str (nomark _)) (pss_one (ps_expr (by exact (pe_methS1 (pv 0) M.clD M.m_Disk_make (ok_Disk_make M) (hr.mono (by decide)) M.b_Disk_make (fun σ => L2N.passAt tk σ) (by exact (pa_cons (pe_ix (r := rIxT K) ix_tup (pv 1) pe_int (fun _ _ => rfl)) pa_nil)))))) (pss_one (ps_if (pt_cmpR op_eq (pe_ix (r := rIxT K) ix_tup (pv 1) pe_int (fun _ _ => rfl)) pe_str (nomark _)) (pss_one (ps_expr (by exact (pe_methS1 (pv 0) M.clD M.m_Disk_write (ok_Disk_write M) (hr.mono (by decide)) M.b_Disk_write (fun σ => L2N.passAt tk σ) (by exact (pa_cons (pe_ix (r := rIxT K) ix_tup (pv 1) pe_int (fun _ _ => rfl)) (pa_cons (pe_ix (r := rIxT K) ix_tup (pv 1) pe_int (fun _ _ => rfl)) pa_nil))))))) (pss_one (ps_if (pt_cmpR op_eq (pe_ix (r := rIxT K) ix_tup (pv 1) pe_int (fun _ _ => rfl)) pe_str (nomark _)) (pss_one (ps_expr (by exact (pe_methS1 (pv 0) M.clD M.m_Disk_sync (ok_Disk_sync M) (hr.mono (by decide)) M.b_Disk_sync (fun σ => L2N.passAt tk σ) (by exact (pa_cons (pe_ix (r := rIxT K) ix_tup (pv 1) pe_int (fun _ _ => rfl)) pa_nil)))))) (pss_one (ps_if (pt_cmpR op_eq (pe_ix (r := rIxT K) ix_tup (pv 1) pe_int (fun _ _ => rfl)) pe_str (nomark _)) (pss_one (ps_expr (pe_meth0 (pv 0) M.clD M.m_Disk_sync_names (ok_Disk_sync_names M) (hr.mono (by decide)) M.b_Disk_sync_names .nil pass0))) (pss_one (ps_if (pt_cmpR op_eq (pe_ix (r := rIxT K) ix_tup (pv 1) pe_int (fun _ _ => rfl)) pe_str (nomark _)) (pss_one (ps_expr (by exact (pe_methS1 (pv 0) M.clD M.m_Disk_move (ok_Disk_move M) (hr.mono (by decide)) M.b_Disk_move (fun σ => L2N.passAt tk σ) (by exact (pa_cons (pe_ix (r := rIxT K) ix_tup (pv 1) pe_int (fun _ _ => rfl)) (pa_cons (pe_ix (r := rIxT K) ix_tup (pv 1) pe_int (fun _ _ => rfl)) pa_nil))))))) (pss_one (ps_if (pt_cmpR op_eq (pe_ix (r := rIxT K) ix_tup (pv 1) pe_int (fun _ _ => rfl)) pe_str (nomark _)) (pss_one (ps_expr (by exact (pe_methS1 (pv 0) M.clD M.m_Disk_remove (ok_Disk_remove M) (hr.mono (by decide)) M.b_Disk_remove (fun σ => L2N.passAt tk σ) (by exact (pa_cons (pe_ix (r := rIxT K) ix_tup (pv 1) pe_int (fun _ _ => rfl)) pa_nil)))))) (pss_one (ps_expr (by exact (pe_methS1 (pv 0) M.clD M.m_Disk_cut (ok_Disk_cut M) (hr.mono (by decide)) M.b_Disk_cut (fun σ => L2N.passAt tk σ) (by exact (pa_cons (pe_ix (r := rIxT K) ix_tup (pv 1) pe_int (fun _ _ => rfl)) (pa_cons (pe_ix (r := rIxT K) ix_tup (pv 1) pe_int (fun _ _ => rfl)) pa_nil))))))))))))))))))))
        (fun a oe cls d pn hz hf => pss_ex fun b => pss_when fun hp => by
          obtain ⟨rfl, rfl⟩ := hp
          obtain ⟨ws, ew⟩ := hf
          exact pss_one (ps_ret (pe_handed (fnE_b M b) (room_mark (k := 1) (hr.mono (by decide)) _) hz.zc ⟨rfl, ws, ew, hz.2.2 ws ew⟩ rfl M.g__law_refusal M.k__law_refusal M.b__law_refusal rfl (Or.inl rfl)))))
      (pss_one (ps_ret pe_str)), ?_⟩
    obtain ⟨a, r, fp, D, row, rfl, dk, hrow, sm2, q⟩ := h
    obtain ⟨⟨k0, l0, n0, sa0, c0, ts0, efp, ⟨nd0, ⟨dx0, hi⟩, _⟩⟩, wfd⟩ := id dk
    refine w_start (σ' := [some (.ref a), some (.ref r), none]) rfl ?_
    have fin : ∀ (D2 : Ends) (H' : Hp) (fp' : List Addr), D2.rt = Q → (∀ σ H, D2.nx σ H = tRet (tC (.str (Str.ofString "done"))) D2 σ H) → DiskAt M.CD H' a fp' (step D row).1 → Fr fp fp' H H' →
        finR M.CP M.CU (step D row).2 (fun _ H3 => D2.nx [some (.ref a), some (.ref r), none] H3) (WE (wAs K (.ref M.CE) 2 (tsB M 2) (fun _ _ _ _ => False) D2) [some (.ref a), some (.ref r), none]) H' := by
      intro D2 H' fp' e1 e2 dk2 fr
      refine finCaught M (by show 2 < 3; decide) (fun ed => ?_) fun H2 s2 _ => ?_
      · rw [e2]
        show D2.rt _ _
        rw [e1]
        have := q H' fp' dk2 fr
        rw [ed] at this
        exact this
      · rw [e1]
        exact q H2 fp' (dk2.same s2) (fr.trans (Fr.same s2))
    cases row with
    | make x =>
      unfold tupR at hrow
      (repeat array_get_dec)
      exact ⟨a, x, fp, D, rfl, dk, sm2, fun H' fp' dk2 fr => fin _ H' fp' rfl (fun _ _ => rfl) dk2 fr⟩
    | write x t =>
      unfold tupR at hrow
      (repeat array_get_dec)
      exact ⟨a, x, t, fp, D, rfl, dk, sm2, fun H' fp' dk2 fr => fin _ H' fp' rfl (fun _ _ => rfl) dk2 fr⟩
    | sync x =>
      unfold tupR at hrow
      (repeat array_get_dec)
      exact ⟨a, x, fp, D, rfl, dk, sm2, fun H' fp' dk2 fr => fin _ H' fp' rfl (fun _ _ => rfl) dk2 fr⟩
    | names =>
      unfold tupR at hrow
      (repeat array_get_dec)
      exact ⟨a, fp, D, rfl, dk, sm2, fun H' fp' dk2 fr => fin _ H' fp' rfl (fun _ _ => rfl) dk2 fr⟩
    | move x y =>
      unfold tupR at hrow
      (repeat array_get_dec)
      exact ⟨a, x, y, fp, D, rfl, dk, sm2, fun H' fp' dk2 fr => fin _ H' fp' rfl (fun _ _ => rfl) dk2 fr⟩
    | drop x =>
      unfold tupR at hrow
      (repeat array_get_dec)
      exact ⟨a, x, fp, D, rfl, dk, sm2, fun H' fp' dk2 fr => fin _ H' fp' rfl (fun _ _ => rfl) dk2 fr⟩
    | cut x v =>
      unfold tupR at hrow
      (repeat array_get_dec)
      exact ⟨a, x, v, fp, D, rfl, dk, sm2, fun H' fp' dk2 fr => fin _ H' fp' rfl (fun _ _ => rfl) dk2 fr⟩
theorem ok__law_cut (M : Nms K mg) : FnOk P w K mg base CX0 5 M.a__law_cut M.d__law_cut ["disk", "changes", "tears"] (spLCut M.CD) := by
  refine M.F__law_cut.ok sc__law_cut (fun vs H Q E h => ?_) (fun cdv A outer s H vs Q E hr h => ?_)
  · obtain ⟨a, fp, D, ch, c, ts, trs, rfl, _⟩ := h
    rfl
  · have hu := hu1 hr
    have clD := M.clD
    have nD_kept := M.nD_kept
    have nD_late := M.nD_late
    have nD_names := M.nD_names
    have nD_sure := M.nD_sure
    have nD_changes := M.nD_changes
    have nD_next := M.nD_next
    refine ⟨_, pss_one (L2N.ps_try_as (i := 3) (tb := fun W => tRet (tMethS M.CD "cut_off" (spCutOff M.CD M.CP) (WE W) (tVar 0) (tCons (tVar 1) (tCons (tVar 2) tNil)))) (ts := tsB M 3) (Wout := fun _ _ _ _ => False)
        rfl rfl sc__law_cut.nd rfl rfl ⟨rfl, by decide, .inl M.YP.gD⟩ takes0N
        (fun W pn xe tk _ => pss_one (ps_ret (by exact (pe_methS1 (pv 0) M.clD M.m_Disk_cut_off (ok_Disk_cut_off M) (hr.mono (by decide)) M.b_Disk_cut_off (fun σ => L2N.passAt tk σ) (by exact (pa_cons (pv 1) (pa_cons (pv 2) pa_nil)))))))
        (fun a oe cls d pn hz hf => pss_ex fun b => pss_when fun hp => by
          obtain ⟨rfl, rfl⟩ := hp
          obtain ⟨ws, ew⟩ := hf
          exact pss_one (ps_ret (pe_handed (fnE_b M b) (room_mark (k := 1) (hr.mono (by decide)) _) hz.zc ⟨rfl, ws, ew, hz.2.2 ws ew⟩ rfl M.g__law_refusal M.k__law_refusal M.b__law_refusal rfl (Or.inl rfl))))), ?_⟩
    obtain ⟨a, fp, D, ch, c, ts, trs, rfl, dk, hc, te, h64, ncf, na, q, ke⟩ := h
    obtain ⟨⟨k0, l0, n0, sa0, c0, ts0, efp, ⟨nd0, ⟨dx0, hi⟩, _⟩⟩, wfd⟩ := id dk
    refine w_start (σ' := [some (.ref a), some (vIB ch), some (.ref c), none]) rfl ?_
    (repeat array_get_dec)
    exact ⟨a, fp, D, ch, c, ts, trs, rfl, dk, hc, te, h64, ncf, na, q, fun no H' s => caught M true (by show 3 < 4; decide) fun H2 s2 => ke no H2 (s.trans s2)⟩
end
end K50

namespace K50
open PySem PySem.Spec PyProof.Rows L2
local macro_rules | `(tactic| array_mem_dec) => `(tactic| first | with_reducible assumption | with_reducible exact upd_same | ((with_reducible apply same_at); (with_reducible assumption); array_mem_dec) | ((with_reducible apply upd_atN); (with_reducible assumption); array_mem_dec) | ((with_reducible apply upd_at); (first | with_reducible assumption | (apply Ne.symm; with_reducible assumption)); array_mem_dec))
local macro_rules | `(tactic| array_get_dec) => `(tactic| first | (with_reducible refine w_seq ?_) | (with_reducible refine w_asg ?_) | (with_reducible refine w_drop ?_) | (with_reducible refine w_ret ?_) | (with_reducible refine w_retN ?_) | (with_reducible refine w_next ?_) | (with_reducible refine w_break ?_) | (with_reducible refine w_cont ?_) | (with_reducible refine w_ifS ?_) | (with_reducible refine w_sub ?_) | (with_reducible refine w_c ?_) | (with_reducible refine w_op ?_) | (with_reducible refine w_un ?_) | (with_reducible refine w_test ?_) | (with_reducible refine w_B ?_) | (with_reducible refine w_yes ?_) | (with_reducible refine w_not ?_) | (with_reducible refine w_and ?_) | (with_reducible refine w_or ?_) | (with_reducible refine w_andV ?_) | (with_reducible refine w_orV ?_) | (with_reducible refine w_notV ?_) | (with_reducible refine w_ifE ?_) | (with_reducible refine w_nil ?_) | (with_reducible refine w_cons ?_) | (with_reducible refine w_call ?_) | (with_reducible refine w_callS ?_) | (with_reducible refine w_cB ?_) | (with_reducible refine w_lst ?_) | (with_reducible refine w_tup ?_) | (with_reducible refine w_sl ?_) | (with_reducible refine w_noPart ?_) | (with_reducible refine w_part ?_) | (with_reducible refine w_bm ?_) | (with_reducible refine w_bm0 ?_) | (with_reducible refine w_strTy ?_) | (with_reducible refine w_bl ?_) | (with_reducible refine w_int1 ?_) | (with_reducible refine w_str1 ?_) | (with_reducible refine w_rI0 ?_) | (with_reducible refine w_rU ?_) | (with_reducible refine w_eqI ?_) | (with_reducible refine w_eqS ?_) | (with_reducible refine w_neI ?_) | (with_reducible refine w_neS ?_) | (with_reducible refine w_bl2 ?_) | (with_reducible refine w_isN ?_) | (with_reducible refine w_for ?_) | (with_reducible refine w_iRng1 ?_) | (with_reducible refine w_iRng2 ?_) | (with_reducible refine w_iList ?_) | (with_reducible refine w_iTup ?_) | (with_reducible refine w_iStr ?_) | (with_reducible refine w_lc ?_) | (with_reducible refine w_M1 ?_) | (with_reducible refine w_M0 ?_) | (with_reducible refine w_isS ?_) | ((with_reducible apply w_name); (simp only [wipe, List.map_cons, List.map_nil, List.foldl_cons, List.foldl_nil, List.set_cons_zero, List.set_cons_succ]; exact rfl)) | ((with_reducible apply w_var); exact rfl) | ((with_reducible apply w_lstTy); array_mem_dec) | ((with_reducible apply w_lenL); array_mem_dec) | ((with_reducible apply w_lenT); array_mem_dec) | ((with_reducible apply w_listOf); array_mem_dec) | ((with_reducible apply w_lenS); (first | (with_reducible assumption) | omega | (rw [sizeLine_eq]; omega))) | ((with_reducible apply w_slS); (first | (with_reducible assumption) | omega | (rw [sizeLine_eq]; omega))) | ((with_reducible apply w_wipe); exact rfl) | ((with_reducible apply w_acc); array_mem_dec; (try (first | (with_reducible assumption) | omega | (rw [sizeLine_eq]; omega)))) | ((with_reducible apply w_itl); array_mem_dec) | ((with_reducible apply w_itt); array_mem_dec) | ((with_reducible apply w_append); array_mem_dec; (try (first | (with_reducible assumption) | omega | (rw [sizeLine_eq]; omega)))) | ((with_reducible apply w_rng1); (first | (with_reducible assumption) | omega); (first | (with_reducible assumption) | omega)) | ((with_reducible apply w_ixL); array_mem_dec; (first | (with_reducible assumption) | exact rfl | (apply atI_nat; (with_reducible assumption)) | exact atI_last _ _)) | ((with_reducible apply w_ixT); array_mem_dec; (first | (with_reducible assumption) | exact rfl | (apply atI_nat; (with_reducible assumption)) | exact atI_last _ _)) | ((with_reducible apply w_iT); first | exact rfl | (with_reducible assumption)) | ((with_reducible apply w_iF); first | exact rfl | (with_reducible assumption)) | ((with_reducible apply w_isiI (b := true)); decide +kernel) | ((with_reducible apply w_isiI (b := false)); decide +kernel) | ((with_reducible apply w_isiB (b := true)); decide +kernel) | ((with_reducible apply w_isiB (b := false)); decide +kernel) | ((with_reducible apply w_isiS (b := true)); decide +kernel) | ((with_reducible apply w_isiS (b := false)); decide +kernel) | ((with_reducible apply w_isiN (b := true)); decide +kernel) | ((with_reducible apply w_isiN (b := false)); decide +kernel) | ((with_reducible apply w_isiL (b := true)); array_mem_dec; decide +kernel) | ((with_reducible apply w_isiL (b := false)); array_mem_dec; decide +kernel) | ((with_reducible apply w_isiT (b := true)); array_mem_dec; decide +kernel) | ((with_reducible apply w_isiT (b := false)); array_mem_dec; decide +kernel) | (with_reducible refine w_notT ?_) | (with_reducible refine w_chain ?_) | ((with_reducible apply w_trL); array_mem_dec) | ((with_reducible apply w_gTup); array_mem_dec; exact rfl) | ((with_reducible apply w_gLst); array_mem_dec; exact rfl) | (with_reducible refine w_gCons ?_) | (with_reducible refine w_gNil ?_) | (with_reducible refine w_Fld ?_) | (with_reducible refine w_sFld ?_) | (with_reducible refine w_dget ?_) | (with_reducible refine w_dIn ?_) | (with_reducible refine w_dNotIn ?_) | (with_reducible refine w_sDPut ?_) | (with_reducible refine w_dnewK ?_) | (with_reducible refine w_meth ?_) | (with_reducible refine w_make ?_) | (with_reducible refine w_methS ?_) | (with_reducible refine w_makeS ?_) | (with_reducible refine w_dpop ?_) | ((with_reducible apply w_fld1); array_mem_dec; (with_reducible assumption); (with_reducible assumption); exact rfl) | ((with_reducible apply w_sfld1); array_mem_dec; (with_reducible assumption); (with_reducible assumption); exact Nat.le_of_ble_eq_true rfl) | ((with_reducible apply w_meth1); array_mem_dec; exact rfl) | ((with_reducible apply w_dgetS); array_mem_dec; (with_reducible assumption)) | ((with_reducible apply w_dgetI); array_mem_dec; (with_reducible assumption)) | ((with_reducible apply w_dinS); array_mem_dec) | ((with_reducible apply w_dputI); array_mem_dec; (try (first | (with_reducible assumption) | omega | (rw [sizeLine_eq]; omega)))) | ((with_reducible apply w_dputS); array_mem_dec; (try (first | (with_reducible assumption) | omega | (rw [sizeLine_eq]; omega)))) | ((with_reducible apply w_isD); array_mem_dec) | ((with_reducible apply w_dictD); array_mem_dec) | ((with_reducible apply w_dpopS); array_mem_dec; (with_reducible assumption)) | ((with_reducible apply w_setL); array_mem_dec; exact rfl) | ((with_reducible apply w_cat); array_mem_dec; array_mem_dec; (try (first | (with_reducible assumption) | omega | (rw [sizeLine_eq]; omega)))) | (with_reducible refine w_iKeys ?_) | (with_reducible refine w_dget2 ?_) | (with_reducible refine w_scX ?_) | ((with_reducible apply w_keysF); array_mem_dec) | ((with_reducible apply w_dgetSF); array_mem_dec; (with_reducible assumption)))
/-! ### the disk stands as the lists tell -/
theorem okD_ints {a b c : Int} : okD 3 (.list [.int a, .int b, .int c]) := ⟨by simp, fun e m => by
  simp only [List.mem_cons, List.not_mem_nil, or_false] at m
  rcases m with rfl | rfl | rfl <;> trivial⟩
theorem okD_dS {l : List Tx} (h : l.length ≤ 1000000) : okD 3 (.list (dS l)) := ⟨by unfold dS; rw [List.length_map]; exact h, fun e m => by
  obtain ⟨x, _, rfl⟩ := List.mem_map.mp m
  trivial⟩
theorem dS_dp {K : PySem.W.Frag} {H : Hp} {a : Addr} {l : List Tx} (h : H a = some (.lst (l.map sv))) : Dp K H (.ref a) (.list (dS l)) := .lst (SqL.of h) (dS_all l)
def lateP (D : DS) (x : Tx) : Bool := decide (lateD D ((getA D.names x).getD 0) ≠ [])
def lateK (D : DS) : List Tx := (D.names.map (·.1)).filter (lateP D)
theorem lateN_srt (D : DS) : lateN D = srt (lateK D) := by
  refine srt_only ?_ ?_
  · exact (srt_perm _).filter _
  · exact List.Pairwise.sublist List.filter_sublist (srt_pair _)
def spStands (CD : Addr) : Sp := fun vs H Q _ => ∃ (a h : Addr) (fp fh : List Addr) (D : DS), vs = [.ref a, .ref h] ∧ DiskAt CD H a fp D ∧ HereAt H h fh D ∧ D.next ≤ 1000 ∧ hasA D.names (tl (Str.ofString "nobodyhere")) = false ∧ ∀ H', Same H H' → Q (.bl true) H'
section
variable {P : Program} {w : World} {K : PySem.W.Frag} {mg : Str → Option Value} {base : Heap}
set_option maxHeartbeats 20000000 in
theorem ok__law_stands (M : Nms K mg) : FnOk P w K mg base CX0 5 M.a__law_stands M.d__law_stands ["disk", "here"] (spStands M.CD) := by
  refine M.F__law_stands.ok sc__law_stands (fun vs H Q E h => ?_) (fun cdv A outer s H vs Q E hr h => ?_)
  · obtain ⟨a, h, fp, fh, D, rfl, _⟩ := h
    rfl
  · have hu := hu1 hr
    have clD := M.clD
    have nD_kept := M.nD_kept
    have nD_late := M.nD_late
    have nD_names := M.nD_names
    have nD_sure := M.nD_sure
    have nD_changes := M.nD_changes
    have nD_next := M.nD_next
    refine ⟨_, (pss_cons (ps_set (i := 2) sc__law_stands.nd rfl (Or.inr rfl) (pe_call (ok__law_names_after M) (hr.mono (by decide)) rfl M.g__law_names_after M.k__law_names_after M.b__law_names_after .nil pass0 (pa_cons (pe_ix (r := rIxL K) ix_list (pv 1) pe_int (fun _ _ => rfl)) (pa_cons (pe_ix (r := rIxL K) ix_list (pv 1) pe_int (fun _ _ => rfl)) pa_nil))))
    (pss_cons (ps_if (PW.pt (pw_or (pt_not (pt_val (pe_call (ok__law_same M) (hr.mono (by decide)) rfl M.g__law_same M.k__law_same M.b__law_same .nil pass0 (pa_cons (pe_meth0 (pv 0) M.clD M.m_Disk_names (ok_Disk_names M) (hr.mono (by decide)) M.b_Disk_names .nil pass0) (pa_cons (pe_callB (call_sortedD rfl) (by rfl) M.T.b_sorted (by decide +kernel) (pa_cons (pv 2) pa_nil)) pa_nil))))) (pw_or1 (pt_not (pt_val (pe_call (ok__law_same M) (hr.mono (by decide)) rfl M.g__law_same M.k__law_same M.b__law_same .nil pass0 (pa_cons (pe_meth0 (pv 0) M.clD M.m_Disk_late_changes (ok_Disk_late_changes M) (hr.mono (by decide)) M.b_Disk_late_changes .nil pass0) (pa_cons (pe_callB (id := "len") (r := fun xs H Q => ∃ x n, xs = [x] ∧ LenV K x H n ∧ Q (V.int ((n : Nat) : Int)) H) call_len (by rfl) M.T.b_len (by decide +kernel) (pa_cons (pe_ix (r := rIxL K) ix_list (pv 1) pe_int (fun _ _ => rfl)) pa_nil)) pa_nil)))))))) (pss_one (ps_ret pe_bl)) pss_nil)
    (pss_cons (ps_lock (ps_for PassesOwn.never rfl (pi_keys (pv 2)) (pg_name (i := 3) sc__law_stands.nd rfl (Or.inl rfl)) (pss_cons (ps_asg (pe_ix (r := rIxL K) ix_list (pe_ix (r := rIxL K) ix_list (pv 1) pe_int (fun _ _ => rfl)) (pe_dget hu (pv 2) (pv 3) (fun _ _ => rfl)) (fun _ _ => rfl)) (pg_lst rfl (pgs_cons (pg_name (i := 4) sc__law_stands.nd rfl (Or.inl rfl)) (pgs_cons (pg_name (i := 5) sc__law_stands.nd rfl (Or.inl rfl)) pgs_nil))))
    (pss_one (ps_if (PW.pt (pw_or (pt_not (pt_val (pe_call (ok__law_same M) (hr.mono (by decide)) rfl M.g__law_same M.k__law_same M.b__law_same .nil pass0 (pa_cons (pe_meth (pv 0) M.clD M.m_Disk_read (okL_Disk_read M) (hr.mono (by decide)) M.b_Disk_read .nil pass0 (pa_cons (pv 3) pa_nil)) (pa_cons (pe_op op_add_str (pv 4) (pv 5)) pa_nil))))) (pw_or1 (pt_not (pt_val (pe_call (ok__law_same M) (hr.mono (by decide)) rfl M.g__law_same M.k__law_same M.b__law_same .nil pass0 (pa_cons (pe_lst (pa_cons (pe_meth (pv 0) M.clD M.m_Disk_sure (okL_Disk_sure M) (hr.mono (by decide)) M.b_Disk_sure .nil pass0 (pa_cons (pv 3) pa_nil)) (pa_cons (pe_meth (pv 0) M.clD M.m_Disk_late_size (okL_Disk_late_size M) (hr.mono (by decide)) M.b_Disk_late_size .nil pass0 (pa_cons (pv 3) pa_nil)) (pa_cons (pe_meth (pv 0) M.clD M.m_Disk_size (okL_Disk_size M) (hr.mono (by decide)) M.b_Disk_size .nil pass0 (pa_cons (pv 3) pa_nil)) pa_nil)))) (pa_cons (pe_lst (pa_cons (pe_callB (id := "len") (r := fun xs H Q => ∃ x n, xs = [x] ∧ LenV K x H n ∧ Q (V.int ((n : Nat) : Int)) H) call_len (by rfl) M.T.b_len (by decide +kernel) (pa_cons (pv 4) pa_nil)) (pa_cons (pe_callB (id := "len") (r := fun xs H Q => ∃ x n, xs = [x] ∧ LenV K x H n ∧ Q (V.int ((n : Nat) : Int)) H) call_len (by rfl) M.T.b_len (by decide +kernel) (pa_cons (pv 5) pa_nil)) (pa_cons (pe_callB (id := "len") (r := fun xs H Q => ∃ x n, xs = [x] ∧ LenV K x H n ∧ Q (V.int ((n : Nat) : Int)) H) call_len (by rfl) M.T.b_len (by decide +kernel) (pa_cons (pe_op op_add_str (pv 4) (pv 5)) pa_nil)) pa_nil)))) pa_nil)))))))) (pss_one (ps_ret pe_bl)) pss_nil)))))
    (pss_one (ps_ret (pe_and (pe_call (ok__law_same M) (hr.mono (by decide)) rfl M.g__law_same M.k__law_same M.b__law_same .nil pass0 (pa_cons (pe_meth0 (pv 0) M.clD M.m_Disk_late_files (ok_Disk_late_files M) (hr.mono (by decide)) M.b_Disk_late_files .nil pass0) (pa_cons (pe_callB cr_sortedS (by rfl) M.T.b_sorted (by decide +kernel) (pa_cons (pe_lock (pe_lc (own := [("name", 3)]) rfl sc__law_stands.nd (pi_keys (pv 2)) (blkOk_by (N := ["disk", "here", "names", "name", "sure", "late"]) (sc := defScope s__law_stands) (own := [("name", 3)]) (by decide +kernel)) (fun _ _ _ _ _ => (pg_name (i := 3) sc__law_stands.nd rfl (Or.inl rfl))) (fun _ _ _ _ _ => pts_one (pt_cmpR op_ne (pe_ix (r := rIxL K) ix_list (pe_ix (r := rIxL K) ix_list (pe_ix (r := rIxL K) ix_list (pv 1) pe_int (fun _ _ => rfl)) (pe_dget hu (pv 2) (pv 3) (fun _ _ => rfl)) (fun _ _ => rfl)) pe_int (fun _ _ => rfl)) pe_str (nomark _))) (fun _ _ _ _ _ => (pv 3)))) pa_nil)) pa_nil))) (pe_one (pe_cmpR op_is_bl (pe_meth (pv 0) M.clD M.m_Disk_has (ok_Disk_has M) (hr.mono (by decide)) M.b_Disk_has .nil pass0 (pa_cons pe_str pa_nil)) pe_bl (nomark _))))))))), ?_⟩
    try dsimp only [cxOf, Cx.nox]
    obtain ⟨a, h, fp, fh, D, rfl, dk, ⟨nd, cl, fl, ts, fs, rfl, hp⟩, n1000, nobody, q⟩ := h
    obtain ⟨⟨k0, l0, n0, sa0, c0, ts0, efp, ⟨nd0, ⟨dx0, hi⟩, hk0, hl0, hn0, hs0, hch0, tp0, sm⟩⟩, wfd⟩ := id dk
    refine w_start (σ' := [some (.ref a), some (.ref h), none, none, none, none]) rfl ?_
    have hh := hp.hh
    have hn := hp.hn
    have hc := hp.hc
    have hf := hp.hf
    have a0 : atI [V.ref nd, V.ref cl, V.ref fl] (0 : Int) = some (.ref nd) := atI_nat (j := 0) rfl
    have a1 : atI [V.ref nd, V.ref cl, V.ref fl] (1 : Int) = some (.ref cl) := atI_nat (j := 1) rfl
    have a2 : atI [V.ref nd, V.ref cl, V.ref fl] (2 : Int) = some (.ref fl) := atI_nat (j := 2) rfl
    (repeat array_get_dec)
    refine ⟨nd, cl, ts, D.sure, D.ch, rfl, hn, hc, hp.tp, wfd.ok, by have := sm.sure; have := sm.ch; omega, wfd.nd, fun p H1 s1 pH h1 => ?_⟩
    rw [← wfd.nm] at h1
    have hi1 := s1 _ _ hi
    (repeat array_get_dec)
    refine ⟨a, fp, D, rfl, dk.1.same s1, fun p2 hp2 => ?_⟩
    have h1' := upd_atN (o := .lst ((srt (D.names.map (·.1))).map sv)) hp2 h1
    (repeat array_get_dec)
    refine ⟨p, kvT D.names, D.names.map fun p => mkS p.1, rfl, Rd.of h1', kvT_keys _, by rw [List.length_map]; exact sm.names, fun ys p3 hpm hst hp3 => ?_⟩
    have e : ys = (srt (D.names.map (·.1))).map mkS := srtS (by rw [List.map_map]; exact hpm) hst
    rw [e, List.map_map]
    (repeat array_get_dec)
    have ll : (srt (D.names.map (·.1))).length < 64 := by rw [(srt_perm _).length_eq, List.length_map]; exact sm.names
    refine ⟨.ref p2, .ref p3, .list (dS (srt (D.names.map (·.1)))), rfl, dS_dp (upd_atN hp3 upd_same), dS_dp upd_same, okD_dS (by omega), fun H2 s2 => ?_⟩
    have s2' : Same H1 H2 := fun b o e => s2 _ _ (upd_atN hp3 (upd_atN hp2 e))
    have sH2 : Same H H2 := fun b o e => s2' _ _ (s1 _ _ e)
    have h2 := s2' _ _ h1
    clear s2 hp2 hp3 h1'
    (repeat array_get_dec)
    have hi2 := sH2 _ _ hi
    (repeat array_get_dec)
    refine ⟨a, fp, D, rfl, dk.1.same sH2, ?_⟩
    have hh2 := sH2 _ _ hh
    have hc2 := sH2 _ _ hc
    (repeat array_get_dec)
    refine ⟨.int ((D.ch.length : Nat) : Int), _, .int ((D.ch.length : Nat) : Int), rfl, .int _, by rw [List.length_map, hp.tp.len]; exact .int _, trivial, fun H3 s3 => ?_⟩
    (repeat array_get_dec)
    have sH3 : Same H H3 := fun b o e => s3 _ _ (sH2 _ _ e)
    have h3 := s3 _ _ h2
    refine ⟨p, _, h3, trivial, fun od => ?_⟩
    have sHf : Same H (upd H3 p (.frz od (.dK (kvT D.names)))) := fun b o e => by rw [upd_ne (ne_of_none e pH)]; exact sH3 _ _ e
    (repeat array_get_dec)
    refine for_keys (d := p) (od := od) (kvs := kvT D.names) (fun i σ H' => ∃ v3 v4 v5, σ = [some (.ref a), some (.ref h), some (.ref p), v3, v4, v5] ∧ Same (upd H3 p (.frz od (.dK (kvT D.names)))) H') ⟨_, _, _, rfl, Same.refl _⟩ ?_ ?_ ?_
    · rintro i σ H' _ ⟨v3, v4, v5, rfl, s4⟩
      exact s4 _ _ upd_same
    · rintro i ky v σ H' hkv ⟨v3, v4, v5, rfl, s4⟩
      obtain ⟨⟨x, n⟩, hLi, ekv⟩ : ∃ p, D.names[i]? = some p ∧ (ky, v) = ((Sum.inr (mkS p.1) : Key), V.int (p.2 : Int)) := by
        unfold kvT at hkv
        rw [List.getElem?_map] at hkv
        cases e : D.names[i]? with
        | none => rw [e] at hkv; cases hkv
        | some p => rw [e] at hkv; exact ⟨p, rfl, (Option.some.inj hkv).symm⟩
      cases ekv
      have gx : getA D.names x = some n := getA_of_mem wfd.ndN (List.mem_of_getElem? hLi)
      have e1 : valV (kvT D.names) (Sum.inr (mkS x)) = some (.int ((n : Nat) : Int)) := by rw [kvT_val, gx]; rfl
      have hfz := s4 _ _ (upd_same (H := H3) (a := p) (o := .frz od (.dK (kvT D.names))))
      have sH4 : Same H H' := fun b o e => s4 _ _ (sHf _ _ e)
      have hh4 := sH4 _ _ hh
      have hf4 := sH4 _ _ hf
      have hi4 := sH4 _ _ hi
      have lti : n < fs.length := by rw [hp.len]; exact wfd.numN' gx
      have hfi : fs[n]? = some fs[n] := List.getElem?_eq_getElem lti
      have ff := sH4 _ _ (hp.ff n _ hfi)
      obtain ⟨t0, u, g1, g2, b1, b2, er, eu, ek⟩ := texts_at wfd sm gx
      rw [ek, eu] at ff
      have af : atI (fs.map V.ref) (n : Int) = some (.ref fs[n]) := atI_nat (by rw [List.getElem?_map, hfi]; rfl)
      have dk4 := dk.same sH4
      dsimp only [kV]
      (repeat array_get_dec)
      refine ⟨a, fp, D, x, n, rfl, dk4, gx, ?_⟩
      (repeat array_get_dec)
      refine w_addS (fit_add (s := mkS t0) (t := mkS u) (a := t0.length) (b := u.length) (Nat.le_of_eq (len_tl _)) (Nat.le_of_eq (len_tl _)) (by omega)) ?_
      rw [mkS_app]
      (repeat array_get_dec)
      refine ⟨sv (readD D n), sv (t0 ++ u), .str (mkS (t0 ++ u)), rfl, by rw [er]; exact .str _, .str _, trivial, fun H5 s5 => ?_⟩
      have sH5 : Same H H5 := fun b o e => s5 _ _ (sH4 _ _ e)
      have hi5 := sH5 _ _ hi
      have dk5 := dk.same sH5
      (repeat array_get_dec)
      refine ⟨a, fp, D, x, n, rfl, dk5, gx, ?_⟩
      (repeat array_get_dec)
      refine ⟨a, fp, D, x, n, rfl, dk5, gx, ?_⟩
      (repeat array_get_dec)
      refine ⟨a, fp, D, x, n, rfl, dk5, gx, ?_⟩
      (repeat array_get_dec)
      refine ⟨by show 3 ≤ sizeLine; decide, fun l1 hl1 => ?_⟩
      have z1 : (mkS t0).length ≤ sizeLine := by rw [sizeLine_eq, len_tl]; show t0.length ≤ _; omega
      have z2 : (mkS u).length ≤ sizeLine := by rw [sizeLine_eq, len_tl]; show u.length ≤ _; omega
      have z3 : (mkS (t0 ++ u)).length ≤ sizeLine := by rw [sizeLine_eq, len_tl]; show (t0 ++ u).length ≤ _; rw [List.length_append]; omega
      (repeat array_get_dec)
      refine w_addS (fit_add (s := mkS t0) (t := mkS u) (a := t0.length) (b := u.length) (Nat.le_of_eq (len_tl _)) (Nat.le_of_eq (len_tl _)) (by omega)) ?_
      rw [mkS_app]
      (repeat array_get_dec)
      refine ⟨by show 3 ≤ sizeLine; decide, fun l2 hl2 => ?_⟩
      (repeat array_get_dec)
      refine ⟨.ref l1, .ref l2, .list [.int ((keptD D n).length : Int), .int ((lateD D n).length : Int), .int ((readD D n).length : Int)], rfl, .lst (SqL.of (upd_atN hl2 upd_same)) (.cons (.int _) (.cons (.int _) (.cons (.int _) .nil))), .lst (SqL.of upd_same) ?_, okD_ints, fun H6 s6 => ?_⟩
      · rw [ek, eu, er, len_tl, len_tl, len_tl]
        exact .cons (.int _) (.cons (.int _) (.cons (.int _) .nil))
      (repeat array_get_dec)
      exact ⟨_, _, _, rfl, fun b o e => s6 _ _ (upd_atN hl2 (upd_atN hl1 (s5 _ _ (s4 _ _ e))))⟩
    · rintro σ H' ⟨v3, v4, v5, rfl, s4⟩
      have hfz := s4 _ _ (upd_same (H := H3) (a := p) (o := .frz od (.dK (kvT D.names))))
      refine ⟨hfz, ?_⟩
      have sH6 : Same H (upd H' p (.dK (kvT D.names))) := fun b o e => by rw [upd_ne (ne_of_none e pH)]; exact s4 _ _ (sHf _ _ e)
      have h6 : upd H' p (.dK (kvT D.names)) p = some (.dK (kvT D.names)) := upd_same
      generalize upd H' p (.dK (kvT D.names)) = H6 at *
      have hi6 := sH6 _ _ hi
      (repeat array_get_dec)
      refine ⟨a, fp, D, rfl, dk.same sH6, fun q1 H7 s7 fq1 hq1 => ?_⟩
      have h7 := s7 _ _ h6
      (repeat array_get_dec)
      refine ⟨p, _, h7, trivial, fun od2 => ?_⟩
      (repeat array_get_dec)
      intro A2 hA2
      have nA : A2 ≠ p := fun z => by rw [z, upd_same] at hA2; cases hA2
      have hA0 : H7 A2 = none := by rw [upd_ne nA] at hA2; exact hA2
      have sH7 : Same H H7 := fun b o e => s7 _ _ (sH6 _ _ e)
      have sHf7 : Same H (upd H7 p (.frz od2 (.dK (kvT D.names)))) := fun b o e => by rw [upd_ne (ne_of_none e pH)]; exact sH7 _ _ e
      refine lc_keys (d := p) (od := od2) (kvs := kvT D.names) (fun i H2 => H2 A2 = some (.lst ((((D.names.take i).map (·.1)).filter (lateP D)).map sv)) ∧ ∀ b o, b ≠ A2 → upd H7 p (.frz od2 (.dK (kvT D.names))) b = some o → H2 b = some o) ⟨upd_same, fun b o nb e => by rw [upd_ne nb]; exact e⟩ ?_ ?_ ?_
      · rintro i H2 _ ⟨_, g2⟩
        exact g2 _ _ (Ne.symm nA) upd_same
      · rintro i ky v H2 hkv ⟨g1, g2⟩
        obtain ⟨⟨x, n⟩, hLi, ekv⟩ : ∃ p, D.names[i]? = some p ∧ (ky, v) = ((Sum.inr (mkS p.1) : Key), V.int (p.2 : Int)) := by
          unfold kvT at hkv
          rw [List.getElem?_map] at hkv
          cases e : D.names[i]? with
          | none => rw [e] at hkv; cases hkv
          | some p => rw [e] at hkv; exact ⟨p, rfl, (Option.some.inj hkv).symm⟩
        cases ekv
        have gx : getA D.names x = some n := getA_of_mem wfd.ndN (List.mem_of_getElem? hLi)
        have e1 : valV (kvT D.names) (Sum.inr (mkS x)) = some (.int ((n : Nat) : Int)) := by rw [kvT_val, gx]; rfl
        have hfz2 := g2 _ _ (Ne.symm nA) upd_same
        have sH8 : Same H H2 := fun b o e => g2 b o (fun z => by rw [z] at e; rw [sH7 _ _ e] at hA0; cases hA0) (sHf7 _ _ e)
        have hh8 := sH8 _ _ hh
        have hf8 := sH8 _ _ hf
        have lti : n < fs.length := by rw [hp.len]; exact wfd.numN' gx
        have hfi : fs[n]? = some fs[n] := List.getElem?_eq_getElem lti
        have ff := sH8 _ _ (hp.ff n _ hfi)
        have af : atI (fs.map V.ref) (n : Int) = some (.ref fs[n]) := atI_nat (by rw [List.getElem?_map, hfi]; rfl)
        have c1 : atI [sv (keptD D n), sv (lateD D n)] (1 : Int) = some (sv (lateD D n)) := atI_nat (j := 1) rfl
        have lz : ((((D.names.take i).map (·.1)).filter (lateP D)).map sv).length < sizeLine := by
          rw [List.length_map]
          have := List.length_filter_le (lateP D) ((D.names.take i).map (·.1))
          rw [List.length_map, List.length_take] at this
          have := sm.names
          rw [sizeLine_eq]; omega
        have eg : lateP D x = decide (lateD D n ≠ []) := by unfold lateP; rw [gx]; rfl
        have ft : ((D.names.take (i + 1)).map (·.1)).filter (lateP D) = ((D.names.take i).map (·.1)).filter (lateP D) ++ (if lateP D x = true then [x] else []) := by
          rw [take_one hLi, List.map_append, List.filter_append, List.map_cons, List.map_nil, List.filter_cons]
          rfl
        dsimp only [kV]
        (repeat array_get_dec)
        refine ite2 (fun hb => ?_) (fun hb => ?_)
        · have hb' : lateP D x = true := by
            rw [eg]
            refine decide_eq_true fun z => ?_
            rw [z] at hb
            exact absurd hb (by decide +kernel)
          (repeat array_get_dec)
          refine ⟨by rw [upd_same, ft, if_pos hb', List.map_append]; rfl, fun b o nb e => by rw [upd_ne nb]; exact g2 b o nb e⟩
        · have hb' : ¬ lateP D x = true := by
            rw [eg]
            intro z
            have := of_decide_eq_true z
            apply hb
            rw [decide_eq_false fun y => this (mk_nil.mp y)]; rfl
          refine ⟨by rw [g1, ft, if_neg hb', List.append_nil], g2⟩
      · rintro H2 ⟨g1, g2⟩
        rw [kvT_len, List.take_length] at g1
        have hfz2 := g2 _ _ (Ne.symm nA) upd_same
        refine ⟨hfz2, ?_⟩
        have g1' : upd H2 p (.dK (kvT D.names)) A2 = some (.lst ((lateK D).map sv)) := by rw [upd_ne nA]; exact g1
        have sH8 : Same H7 (upd H2 p (.dK (kvT D.names))) := fun b o e => by
          by_cases eb : b = p
          · rw [eb] at e ⊢
            rw [upd_same, ← h7, e]
          · rw [upd_ne eb]
            exact g2 b o (fun z => by rw [z, hA0] at e; cases e) (by rw [upd_ne eb]; exact e)
        generalize upd H2 p (.dK (kvT D.names)) = H8 at *
        (repeat array_get_dec)
        have llk : (lateK D).length < 64 := by
          have := List.length_filter_le (lateP D) (D.names.map (·.1))
          rw [List.length_map] at this
          have := sm.names
          unfold lateK
          omega
        refine ⟨A2, (lateK D).map mkS, rfl, by rw [List.map_map]; exact SqL.of g1', by rw [List.length_map]; exact llk, fun ys q2 hpm hst hq2 => ?_⟩
        rw [srtS hpm hst, ← lateN_srt, List.map_map]
        (repeat array_get_dec)
        refine ⟨.ref q1, .ref q2, .list (dS (lateN D)), rfl, dS_dp (upd_atN hq2 (sH8 _ _ hq1)), dS_dp upd_same, okD_dS (by rw [lateN_srt, (srt_perm _).length_eq]; omega), fun H9 s9 => ?_⟩
        have sH9 : Same H H9 := fun b o e => s9 _ _ (upd_atN hq2 (sH8 _ _ (sH7 _ _ e)))
        have hi9 := sH9 _ _ hi
        (repeat array_get_dec)
        refine ⟨a, fp, D, tl (Str.ofString "nobodyhere"), rfl, dk.1.same sH9, ?_⟩
        rw [nobody]
        (repeat array_get_dec)
        exact q _ sH9
end
end K50

namespace K50
open PySem PySem.Spec PyProof.Rows L2
local macro_rules | `(tactic| array_mem_dec) => `(tactic| first | with_reducible assumption | with_reducible exact upd_same | ((with_reducible apply same_at); (with_reducible assumption); array_mem_dec) | ((with_reducible apply upd_atN); (with_reducible assumption); array_mem_dec) | ((with_reducible apply upd_at); (first | with_reducible assumption | (apply Ne.symm; with_reducible assumption)); array_mem_dec))
local macro_rules | `(tactic| array_get_dec) => `(tactic| first | (with_reducible refine w_seq ?_) | (with_reducible refine w_asg ?_) | (with_reducible refine w_drop ?_) | (with_reducible refine w_ret ?_) | (with_reducible refine w_retN ?_) | (with_reducible refine w_next ?_) | (with_reducible refine w_break ?_) | (with_reducible refine w_cont ?_) | (with_reducible refine w_ifS ?_) | (with_reducible refine w_sub ?_) | (with_reducible refine w_c ?_) | (with_reducible refine w_op ?_) | (with_reducible refine w_un ?_) | (with_reducible refine w_test ?_) | (with_reducible refine w_B ?_) | (with_reducible refine w_yes ?_) | (with_reducible refine w_not ?_) | (with_reducible refine w_and ?_) | (with_reducible refine w_or ?_) | (with_reducible refine w_andV ?_) | (with_reducible refine w_orV ?_) | (with_reducible refine w_notV ?_) | (with_reducible refine w_ifE ?_) | (with_reducible refine w_nil ?_) | (with_reducible refine w_cons ?_) | (with_reducible refine w_call ?_) | (with_reducible refine w_callS ?_) | (with_reducible refine w_cB ?_) | (with_reducible refine w_lst ?_) | (with_reducible refine w_tup ?_) | (with_reducible refine w_sl ?_) | (with_reducible refine w_noPart ?_) | (with_reducible refine w_part ?_) | (with_reducible refine w_bm ?_) | (with_reducible refine w_bm0 ?_) | (with_reducible refine w_strTy ?_) | (with_reducible refine w_bl ?_) | (with_reducible refine w_int1 ?_) | (with_reducible refine w_str1 ?_) | (with_reducible refine w_rI0 ?_) | (with_reducible refine w_rU ?_) | (with_reducible refine w_eqI ?_) | (with_reducible refine w_eqS ?_) | (with_reducible refine w_neI ?_) | (with_reducible refine w_neS ?_) | (with_reducible refine w_bl2 ?_) | (with_reducible refine w_isN ?_) | (with_reducible refine w_for ?_) | (with_reducible refine w_iRng1 ?_) | (with_reducible refine w_iRng2 ?_) | (with_reducible refine w_iList ?_) | (with_reducible refine w_iTup ?_) | (with_reducible refine w_iStr ?_) | (with_reducible refine w_lc ?_) | (with_reducible refine w_M1 ?_) | (with_reducible refine w_M0 ?_) | (with_reducible refine w_isS ?_) | ((with_reducible apply w_name); (simp only [wipe, List.map_cons, List.map_nil, List.foldl_cons, List.foldl_nil, List.set_cons_zero, List.set_cons_succ]; exact rfl)) | ((with_reducible apply w_var); exact rfl) | ((with_reducible apply w_lstTy); array_mem_dec) | ((with_reducible apply w_lenL); array_mem_dec) | ((with_reducible apply w_lenT); array_mem_dec) | ((with_reducible apply w_listOf); array_mem_dec) | ((with_reducible apply w_lenS); (first | (with_reducible assumption) | omega | (rw [sizeLine_eq]; omega))) | ((with_reducible apply w_slS); (first | (with_reducible assumption) | omega | (rw [sizeLine_eq]; omega))) | ((with_reducible apply w_wipe); exact rfl) | ((with_reducible apply w_acc); array_mem_dec; (try (first | (with_reducible assumption) | omega | (rw [sizeLine_eq]; omega)))) | ((with_reducible apply w_itl); array_mem_dec) | ((with_reducible apply w_itt); array_mem_dec) | ((with_reducible apply w_append); array_mem_dec; (try (first | (with_reducible assumption) | omega | (rw [sizeLine_eq]; omega)))) | ((with_reducible apply w_rng1); (first | (with_reducible assumption) | omega); (first | (with_reducible assumption) | omega)) | ((with_reducible apply w_ixL); array_mem_dec; (first | (with_reducible assumption) | exact rfl | (apply atI_nat; (with_reducible assumption)) | exact atI_last _ _)) | ((with_reducible apply w_ixT); array_mem_dec; (first | (with_reducible assumption) | exact rfl | (apply atI_nat; (with_reducible assumption)) | exact atI_last _ _)) | ((with_reducible apply w_iT); first | exact rfl | (with_reducible assumption)) | ((with_reducible apply w_iF); first | exact rfl | (with_reducible assumption)) | ((with_reducible apply w_isiI (b := true)); decide +kernel) | ((with_reducible apply w_isiI (b := false)); decide +kernel) | ((with_reducible apply w_isiB (b := true)); decide +kernel) | ((with_reducible apply w_isiB (b := false)); decide +kernel) | ((with_reducible apply w_isiS (b := true)); decide +kernel) | ((with_reducible apply w_isiS (b := false)); decide +kernel) | ((with_reducible apply w_isiN (b := true)); decide +kernel) | ((with_reducible apply w_isiN (b := false)); decide +kernel) | ((with_reducible apply w_isiL (b := true)); array_mem_dec; decide +kernel) | ((with_reducible apply w_isiL (b := false)); array_mem_dec; decide +kernel) | ((with_reducible apply w_isiT (b := true)); array_mem_dec; decide +kernel) | ((with_reducible apply w_isiT (b := false)); array_mem_dec; decide +kernel) | (with_reducible refine w_notT ?_) | (with_reducible refine w_chain ?_) | ((with_reducible apply w_trL); array_mem_dec) | ((with_reducible apply w_gTup); array_mem_dec; exact rfl) | ((with_reducible apply w_gLst); array_mem_dec; exact rfl) | (with_reducible refine w_gCons ?_) | (with_reducible refine w_gNil ?_) | (with_reducible refine w_Fld ?_) | (with_reducible refine w_sFld ?_) | (with_reducible refine w_dget ?_) | (with_reducible refine w_dIn ?_) | (with_reducible refine w_dNotIn ?_) | (with_reducible refine w_sDPut ?_) | (with_reducible refine w_dnewK ?_) | (with_reducible refine w_meth ?_) | (with_reducible refine w_make ?_) | (with_reducible refine w_methS ?_) | (with_reducible refine w_makeS ?_) | (with_reducible refine w_dpop ?_) | ((with_reducible apply w_fld1); array_mem_dec; (with_reducible assumption); (with_reducible assumption); exact rfl) | ((with_reducible apply w_sfld1); array_mem_dec; (with_reducible assumption); (with_reducible assumption); exact Nat.le_of_ble_eq_true rfl) | ((with_reducible apply w_meth1); array_mem_dec; exact rfl) | ((with_reducible apply w_dgetS); array_mem_dec; (with_reducible assumption)) | ((with_reducible apply w_dgetI); array_mem_dec; (with_reducible assumption)) | ((with_reducible apply w_dinS); array_mem_dec) | ((with_reducible apply w_dputI); array_mem_dec; (try (first | (with_reducible assumption) | omega | (rw [sizeLine_eq]; omega)))) | ((with_reducible apply w_dputS); array_mem_dec; (try (first | (with_reducible assumption) | omega | (rw [sizeLine_eq]; omega)))) | ((with_reducible apply w_isD); array_mem_dec) | ((with_reducible apply w_dictD); array_mem_dec) | ((with_reducible apply w_dpopS); array_mem_dec; (with_reducible assumption)) | ((with_reducible apply w_setL); array_mem_dec; exact rfl) | ((with_reducible apply w_cat); array_mem_dec; array_mem_dec; (try (first | (with_reducible assumption) | omega | (rw [sizeLine_eq]; omega)))) | (with_reducible refine w_iKeys ?_) | (with_reducible refine w_dget2 ?_) | (with_reducible refine w_scX ?_) | ((with_reducible apply w_keysF); array_mem_dec) | ((with_reducible apply w_dgetSF); array_mem_dec; (with_reducible assumption)))
/-! ### a found disk is as told -/
def kvR (l : List (Nat × Addr)) : List (Key × V) := l.map fun p => ((fun n : Nat => (Sum.inl (n : Int) : Key)) p.1, (fun a : Addr => V.ref a) p.2)
def foldR (l : List (Nat × Addr)) : List (Nat × Addr) := l.foldl (fun acc p => putA acc p.1 p.2) []
theorem foldR_snoc {l : List (Nat × Addr)} {p : Nat × Addr} : foldR (l ++ [p]) = putA (foldR l) p.1 p.2 := by
  unfold foldR
  rw [List.foldl_append]; rfl
theorem kvR_merge (l : List (Nat × Addr)) : mergeK [] (kvR l) = kvR (foldR l) := by
  suffices h : ∀ (l acc : List (Nat × Addr)), mergeK (kvR acc) (kvR l) = kvR (l.foldl (fun acc p => putA acc p.1 p.2) acc) from h l []
  intro l
  induction l with
  | nil => intro acc; rfl
  | cons p r ih =>
    intro acc
    show mergeK (putK (kvR acc) (Sum.inl (p.1 : Int)) (V.ref p.2)) (kvR r) = _
    rw [show putK (kvR acc) (Sum.inl (p.1 : Int)) (V.ref p.2) = kvR (putA acc p.1 p.2) from putK_emb (f := fun n : Nat => (Sum.inl (n : Int) : Key)) (g := fun a : Addr => V.ref a) injM acc p.1 p.2]
    exact ih _
theorem kvR_val (l : List (Nat × Addr)) (i : Nat) : valV (kvR l) (Sum.inl (i : Int)) = (getA l i).map V.ref := valV_emb (f := fun n : Nat => (Sum.inl (n : Int) : Key)) (g := fun a : Addr => V.ref a) injM l i
/-- what the law keeps of tears, beside what was told -/
def LT (H : Hp) (D : DS) (l : List (Nat × Addr)) (trs : List Tear) : Prop := ∀ n, (∃ q s b, getA (foldR l) n = some q ∧ H q = some (.tup [.int ((s : Nat) : Int), .bl b]) ∧ s ≤ (lateD D n).length ∧ (b = true → 0 < s) ∧ toldA (toldD D trs) n = partT (lateD D n) s b) ∨ (getA (foldR l) n = none ∧ toldA (toldD D trs) n = [])
theorem LT.keep {H H' : Hp} {D : DS} {l : List (Nat × Addr)} {trs : List Tear} (x : LT H D l trs) (k : ∀ t xs, H t = some (.tup xs) → H' t = some (.tup xs)) : LT H' D l trs := fun n => (x n).imp (fun ⟨q, s, b, h1, h2, h3⟩ => ⟨q, s, b, h1, k _ _ h2, h3⟩) id
/-- the pairs as tuples -/
def PrR (H : Hp) : List Addr → List (Nat × Addr) → Prop
  | [], [] => True
  | t :: ts, c :: cs => H t = some (.tup [.int (c.1 : Int), .ref c.2]) ∧ PrR H ts cs
  | _, _ => False
theorem PrR.keep {H H' : Hp} : ∀ {ts : List Addr} {cs : List (Nat × Addr)}, PrR H ts cs → (∀ t xs, H t = some (.tup xs) → H' t = some (.tup xs)) → PrR H' ts cs
  | [], [], _, _ => trivial
  | t :: ts, c :: cs, h, k => ⟨k t _ h.1, PrR.keep h.2 k⟩
  | [], _ :: _, h, _ => h.elim
  | _ :: _, [], h, _ => h.elim
theorem PrR.len {H : Hp} : ∀ {ts : List Addr} {cs : List (Nat × Addr)}, PrR H ts cs → ts.length = cs.length
  | [], [], _ => rfl
  | t :: ts, c :: cs, h => by rw [List.length_cons, List.length_cons, PrR.len h.2]
  | [], _ :: _, h => h.elim
  | _ :: _, [], h => h.elim
theorem PrR.snoc {H : Hp} {t : Addr} {c : Nat × Addr} : ∀ {ts : List Addr} {cs : List (Nat × Addr)}, PrR H ts cs → H t = some (.tup [.int (c.1 : Int), .ref c.2]) → PrR H (ts ++ [t]) (cs ++ [c])
  | [], [], _, e => ⟨e, trivial⟩
  | u :: ts, d :: cs, h, e => ⟨h.1, PrR.snoc h.2 e⟩
  | [], _ :: _, h, _ => h.elim
  | _ :: _, [], h, _ => h.elim
theorem PrR.paired {K : PySem.W.Frag} {H : Hp} : ∀ {ts : List Addr} {cs : List (Nat × Addr)}, PrR H ts cs → Paired (fun p (kv : Key × V) => SqT K H p [kV kv.1, kv.2]) ts (kvR cs)
  | [], [], _ => .nil
  | t :: ts, c :: cs, h => .cons (SqT.of h.1) (PrR.paired h.2)
  | [], _ :: _, h => h.elim
  | _ :: _, [], h => h.elim
theorem kept_found {D : DS} {k n : Nat} {told : List (Nat × Tx)} (h : n ∈ (applyA D.sure (D.ch.take k)).map (·.2)) : keptD (foundD D k told) n = keptD D n ++ toldA told n ∧ lateD (foundD D k told) n = [] := by
  unfold keptD lateD
  rw [show (foundD D k told).kept = foldP (fun n => keptD D n ++ toldA told n) (applyA D.sure (D.ch.take k)) [] from rfl, show (foundD D k told).late = foldP (fun _ => []) (applyA D.sure (D.ch.take k)) [] from rfl, getA_foldP, getA_foldP, if_pos h, if_pos h]
  exact ⟨rfl, rfl⟩
theorem late_found {D : DS} (w : wf D) {k : Nat} {told : List (Nat × Tx)} : lateN (foundD D k told) = [] := by
  unfold lateN
  rw [List.filter_eq_nil_iff]
  intro x m
  have mx : x ∈ (applyA D.sure (D.ch.take k)).map (·.1) := (srt_perm _).mem_iff.mp m
  obtain ⟨j, hj⟩ := Option.isSome_iff_exists.mp (getA_has.mpr mx)
  have := (kept_found (k := k) (told := told) (List.mem_map_of_mem (f := (·.2)) (getA_mem hj))).2
  rw [show (foundD D k told).names = applyA D.sure (D.ch.take k) from rfl, hj]
  show ¬ decide (lateD (foundD D k told) j ≠ []) = true
  rw [this]
  simp
def spFRight (CD : Addr) : Sp := fun vs H Q _ => ∃ (b h c : Addr) (fb fh : List Addr) (D : DS) (k : Nat) (ts : List Addr) (trs : List Tear), vs = [.ref b, .ref h, .int (k : Int), .ref c] ∧ DiskAt CD H b fb (foundD D k (toldD D trs)) ∧ HereAt H h fh D ∧ wf D ∧ bd D ∧ D.next ≤ 1000 ∧ k ≤ D.ch.length ∧
  H c = some (.lst (ts.map V.ref)) ∧ TeAt H ts trs ∧ trs.length < 64 ∧ (∀ t ∈ trs, okTear D t) ∧ ∀ H', Same H H' → Q (.bl true) H'
section
variable {P : Program} {w : World} {K : PySem.W.Frag} {mg : Str → Option Value} {base : Heap}
set_option maxHeartbeats 20000000 in
theorem ok__law_found_right (M : Nms K mg) : FnOk P w K mg base CX0 5 M.a__law_found_right M.d__law_found_right ["found", "here", "changes", "tears"] (spFRight M.CD) := by
  refine M.F__law_found_right.ok sc__law_found_right (fun vs H Q E h => ?_) (fun cdv A outer s H vs Q E hr h => ?_)
  · obtain ⟨b, h, c, fb, fh, D, k, ts, trs, rfl, _⟩ := h
    rfl
  · have hu := hu1 hr
    have clD := M.clD
    have nD_kept := M.nD_kept
    have nD_late := M.nD_late
    have nD_names := M.nD_names
    have nD_sure := M.nD_sure
    have nD_changes := M.nD_changes
    have nD_next := M.nD_next
    refine ⟨_, (pss_cons (ps_set (i := 4) sc__law_found_right.nd rfl (Or.inr rfl) (pe_call (ok__law_names_after M) (hr.mono (by decide)) rfl M.g__law_names_after M.k__law_names_after M.b__law_names_after .nil pass0 (pa_cons (pe_ix (r := rIxL K) ix_list (pv 1) pe_int (fun _ _ => rfl)) (pa_cons (pe_ix (r := rIxL K) ix_list (pv 1) pe_int (fun _ _ => rfl)) pa_nil))))
    (pss_cons (ps_set (i := 5) sc__law_found_right.nd rfl (Or.inl rfl) (pe_callTy (call_dictP rfl) (by rfl) M.T.b_dict (by decide +kernel) (pa_cons (pe_lc (g := gTup K 3 (gCons (gName 6) (gCons (gName 7) (gCons (gName 8) gNil)))) (own := [("name", 6), ("signs", 7), ("spoilt", 8)]) rfl sc__law_found_right.nd (pi_list (pv 3)) (blkOk_by (N := ["found", "here", "changes", "tears", "names", "late", "name", "signs", "spoilt", "due", "at", "part"]) (sc := defScope s__law_found_right) (own := [("name", 6), ("signs", 7), ("spoilt", 8)]) (by decide +kernel)) (fun _ _ _ _ _ => (pg_tup rfl (pgs_cons (pg_name (i := 6) sc__law_found_right.nd rfl (Or.inl rfl)) (pgs_cons (pg_name (i := 7) sc__law_found_right.nd rfl (Or.inl rfl)) (pgs_cons (pg_name (i := 8) sc__law_found_right.nd rfl (Or.inl rfl)) pgs_nil))))) (fun _ _ _ _ _ => pts_nil) (fun _ _ _ _ _ => (pe_tup (pa_cons (pe_dget hu (pv 4) (pv 6) (fun _ _ => rfl)) (pa_cons (pe_tup (pa_cons (pv 7) (pa_cons (pv 8) pa_nil))) pa_nil))))) pa_nil)))
    (pss_cons (ps_set (i := 9) sc__law_found_right.nd rfl (Or.inl rfl) (pe_call (ok__law_names_after M) (hr.mono (by decide)) rfl M.g__law_names_after M.k__law_names_after M.b__law_names_after .nil pass0 (pa_cons (pe_ix (r := rIxL K) ix_list (pv 1) pe_int (fun _ _ => rfl)) (pa_cons (pe_slice (r := rSlL K) sl_list (pe_ix (r := rIxL K) ix_list (pv 1) pe_int (fun _ _ => rfl)) po_none (po_some (pv 2))) pa_nil))))
    (pss_cons (ps_if (PW.pt (pw_or (pt_not (pt_val (pe_call (ok__law_same M) (hr.mono (by decide)) rfl M.g__law_same M.k__law_same M.b__law_same .nil pass0 (pa_cons (pe_meth0 (pv 0) M.clD M.m_Disk_names (ok_Disk_names M) (hr.mono (by decide)) M.b_Disk_names .nil pass0) (pa_cons (pe_callB (call_sortedD rfl) (by rfl) M.T.b_sorted (by decide +kernel) (pa_cons (pv 9) pa_nil)) pa_nil))))) (pw_or (pt_cmpR op_ne (pe_meth0 (pv 0) M.clD M.m_Disk_late_changes (ok_Disk_late_changes M) (hr.mono (by decide)) M.b_Disk_late_changes .nil pass0) pe_int (nomark _)) (pw_or1 (pt_cmpR (r := rNeD K) (op_neD hr.units) (pe_meth0 (pv 0) M.clD M.m_Disk_late_files (ok_Disk_late_files M) (hr.mono (by decide)) M.b_Disk_late_files .nil pass0) (pe_lst pa_nil) (nomark _)))))) (pss_one (ps_ret pe_bl)) pss_nil)
    (pss_cons (ps_lock (ps_for PassesOwn.never rfl (pi_keys (pv 9)) (pg_name (i := 6) sc__law_found_right.nd rfl (Or.inl rfl)) (pss_cons (ps_set (i := 10) sc__law_found_right.nd rfl (Or.inl rfl) (pe_dget hu (pv 9) (pv 6) (fun _ _ => rfl)))
    (pss_cons (ps_asg (pe_ifExp (pt_cmp (pc_din hu (pv 10) (pv 5))) (pe_dget hu (pv 5) (pv 10) (fun _ _ => rfl)) (pe_tup (pa_cons pe_int (pa_cons pe_bl pa_nil)))) (pg_tup rfl (pgs_cons (pg_name (i := 7) sc__law_found_right.nd rfl (Or.inl rfl)) (pgs_cons (pg_name (i := 8) sc__law_found_right.nd rfl (Or.inl rfl)) pgs_nil))))
    (pss_cons (ps_set (i := 11) sc__law_found_right.nd rfl (Or.inl rfl) (pe_slice sl_str (pe_ix (r := rIxL K) ix_list (pe_ix (r := rIxL K) ix_list (pe_ix (r := rIxL K) ix_list (pv 1) pe_int (fun _ _ => rfl)) (pv 10) (fun _ _ => rfl)) pe_int (fun _ _ => rfl)) po_none (po_some (pv 7))))
    (pss_cons (ps_set (i := 11) sc__law_found_right.nd rfl (Or.inl rfl) (pe_ifExp (pt_val (pv 8)) (pe_op op_add_str (pe_slice sl_str (pv 11) po_none (po_some (pe_op op_sub (pe_callB (id := "len") (r := fun xs H Q => ∃ x n, xs = [x] ∧ LenV K x H n ∧ Q (V.int ((n : Nat) : Int)) H) call_len (by rfl) M.T.b_len (by decide +kernel) (pa_cons (pv 11) pa_nil)) pe_int))) pe_str) (pv 11)))
    (pss_one (ps_if (PW.pt (pw_or (pt_not (pt_val (pe_call (ok__law_same M) (hr.mono (by decide)) rfl M.g__law_same M.k__law_same M.b__law_same .nil pass0 (pa_cons (pe_meth (pv 0) M.clD M.m_Disk_read (okL_Disk_read M) (hr.mono (by decide)) M.b_Disk_read .nil pass0 (pa_cons (pv 6) pa_nil)) (pa_cons (pe_op op_add_str (pe_ix (r := rIxL K) ix_list (pe_ix (r := rIxL K) ix_list (pe_ix (r := rIxL K) ix_list (pv 1) pe_int (fun _ _ => rfl)) (pv 10) (fun _ _ => rfl)) pe_int (fun _ _ => rfl)) (pv 11)) pa_nil))))) (pw_or1 (pt_cmpR op_ne (pe_meth (pv 0) M.clD M.m_Disk_sure (okL_Disk_sure M) (hr.mono (by decide)) M.b_Disk_sure .nil pass0 (pa_cons (pv 6) pa_nil)) (pe_meth (pv 0) M.clD M.m_Disk_size (okL_Disk_size M) (hr.mono (by decide)) M.b_Disk_size .nil pass0 (pa_cons (pv 6) pa_nil)) (nomark _))))) (pss_one (ps_ret pe_bl)) pss_nil))))))))
    (pss_one (ps_ret pe_bl))))))), ?_⟩
    try dsimp only [cxOf, Cx.nox]
    obtain ⟨b, h, c, fb, fh, D, k, ts, trs, rfl, dk, ⟨nd, cl, fl, tc, fs, rfl, hp⟩, wfd, sm, n1000, kl, hct, te, h64, okt, q⟩ := h
    obtain ⟨⟨k0, l0, n0, sa0, c0, ts0, efp, ⟨nd0, ⟨dx0, hi⟩, hk0, hl0, hn0, hs0, hch0, tp0, smF⟩⟩, wfF⟩ := id dk
    refine w_start (σ' := [some (.ref b), some (.ref h), some (.int (k : Int)), some (.ref c), none, none, none, none, none, none, none, none]) rfl ?_
    have hh := hp.hh
    have hn := hp.hn
    have hc := hp.hc
    have hf := hp.hf
    have a0 : atI [V.ref nd, V.ref cl, V.ref fl] (0 : Int) = some (.ref nd) := atI_nat (j := 0) rfl
    have a1 : atI [V.ref nd, V.ref cl, V.ref fl] (1 : Int) = some (.ref cl) := atI_nat (j := 1) rfl
    have a2 : atI [V.ref nd, V.ref cl, V.ref fl] (2 : Int) = some (.ref fl) := atI_nat (j := 2) rfl
    (repeat array_get_dec)
    refine ⟨nd, cl, tc, D.sure, D.ch, rfl, hn, hc, hp.tp, wfd.ok, by have := sm.sure; have := sm.ch; omega, wfd.nd, fun p H1 s1 pH h1 => ?_⟩
    rw [← wfd.nm] at h1
    have hct1 := s1 _ _ hct
    (repeat array_get_dec)
    intro A2 hA2
    have hA0 : H A2 = none := by
      cases e : H A2 with
      | none => rfl
      | some o => rw [s1 _ _ e] at hA2; cases hA2
    refine lc_list (K := K) (a := c) (xs := ts.map V.ref) (fun i H' => (∃ (ps : List Addr) (l : List (Nat × Addr)), H' A2 = some (.lst (ps.map V.ref)) ∧ PrR H' ps l ∧ LT H' D l (trs.take i) ∧ l.length ≤ i) ∧ ∀ b o, b ≠ A2 → H1 b = some o → H' b = some o) ⟨⟨[], [], upd_same, trivial, fun n => .inr ⟨rfl, rfl⟩, Nat.le_refl _⟩, fun b o nb e => by rw [upd_ne nb]; exact e⟩ ?_ ?_ ?_
    · rintro i H' _ ⟨_, g2⟩
      exact SqL.of (g2 _ _ (ne_of_none hct1 hA2) hct1)
    · rintro i v H' hv ⟨⟨ps, l, g1, pr, lt, ll⟩, g2⟩
      obtain ⟨t, ht, rfl⟩ := getE_map hv
      obtain ⟨tr, htr, htt⟩ := te.get i ht
      have okr := okt tr (List.mem_of_getElem? htr)
      have sH' : Same H H' := fun b o e => g2 b o (fun z => by rw [z, hA0] at e; cases e) (s1 _ _ e)
      have htt' := sH' _ _ htt
      have h1' := g2 _ _ (ne_of_none h1 hA2) h1
      cases tr with
      | two x y => exact okr.elim
      | three x s5 v0 =>
        obtain ⟨⟨j, hj, hjs⟩, b0, rfl, hb⟩ := okr
        have e1 : valV (kvT D.names) (Sum.inr (mkS x)) = some (.int ((j : Nat) : Int)) := by rw [kvT_val, hj]; rfl
        rw [inIB_int, Bool.and_eq_true, decide_eq_true_eq, decide_eq_true_eq] at hjs
        obtain ⟨n, rfl⟩ : ∃ n : Nat, s5 = (n : Int) := ⟨s5.toNat, (Int.toNat_of_nonneg hjs.1).symm⟩
        unfold tupT vIB at htt'
        have li : i < trs.length := (List.getElem?_eq_some_iff.mp htr).1
        have lz : (ps.map V.ref).length < sizeLine := by rw [List.length_map, pr.len, sizeLine_eq]; omega
        (repeat array_get_dec)
        refine ⟨by show 2 ≤ sizeLine; decide, fun q1 hq1 => ?_⟩
        (repeat array_get_dec)
        refine ⟨by show 2 ≤ sizeLine; decide, fun q2 hq2 => ?_⟩
        have g1' := upd_atN (o := .tup [.int ((j : Nat) : Int), .ref q1]) hq2 (upd_atN (o := .tup [.int (n : Int), .bl b0]) hq1 g1)
        have n1 : q1 ≠ A2 := Ne.symm (ne_of_none g1 hq1)
        have n2 : q2 ≠ A2 := Ne.symm (ne_of_none (upd_atN (o := .tup [.int (n : Int), .bl b0]) hq1 g1) hq2)
        (repeat array_get_dec)
        have kp : ∀ u xs, H' u = some (.tup xs) → upd (upd (upd H' q1 (.tup [.int (n : Int), .bl b0])) q2 (.tup [.int ((j : Nat) : Int), .ref q1])) A2 (.lst (ps.map V.ref ++ [.ref q2])) u = some (.tup xs) := fun u xs e => by
          rw [upd_ne fun z => by rw [z, g1] at e; cases e]
          exact upd_atN hq2 (upd_atN hq1 e)
        refine ⟨⟨ps ++ [q2], l ++ [(j, q1)], by rw [upd_same, List.map_append]; rfl, (pr.keep kp).snoc (by rw [upd_ne n2, upd_same]), fun m => ?_, by rw [List.length_append]; simp; omega⟩, fun b o nb e => by rw [upd_ne nb]; exact upd_atN hq2 (upd_atN hq1 (g2 b o nb e))⟩
        rw [foldR_snoc, take_one htr, toldD_snoc, getA_put]
        have et : toldS D (toldD D (trs.take i)) (.three x (n : Int) (.bl b0)) = putA (toldD D (trs.take i)) j (partT (lateD D j) n b0) := by
          unfold toldS
          dsimp only
          rw [hj]
          dsimp only
          rw [Int.toNat_natCast]
        have et2 : ∀ m, toldA (putA (toldD D (trs.take i)) j (partT (lateD D j) n b0)) m = if m = j then partT (lateD D j) n b0 else toldA (toldD D (trs.take i)) m := fun m => getD_put
        rw [et, et2]
        by_cases em : m = j
        · subst em
          rw [if_pos rfl, if_pos rfl]
          refine .inl ⟨q1, n, b0, rfl, ?_, by omega, fun z => ?_, rfl⟩
          · rw [upd_ne n1, upd_ne (Ne.symm (hu2 hq2).1), upd_same]
          · rcases Nat.eq_zero_or_pos n with y | y
            · exact absurd ⟨z, by rw [y]; rfl⟩ hb
            · exact y
        · rw [if_neg em, if_neg em]
          exact (lt.keep kp) m
    · rintro H2 ⟨⟨ps, l, g1, pr, lt, ll⟩, g2⟩
      have ln : (ts.map V.ref).length = trs.length := by rw [List.length_map, te.len]
      rw [ln, List.take_length] at lt
      rw [ln] at ll
      have s12 : Same H1 H2 := upd_atS hA2 g2
      have sH2 : Same H H2 := fun b o e => s12 _ _ (s1 _ _ e)
      (repeat array_get_dec)
      refine ⟨A2, ps, kvR l, rfl, SqL.of g1, pr.paired, fun d1 hd1 => ?_⟩
      rw [kvR_merge]
      have sH3 : Same H (upd H2 d1 (.dK (kvR (foldR l)))) := fun b o e => upd_atN hd1 (sH2 _ _ e)
      have hd : upd H2 d1 (.dK (kvR (foldR l))) d1 = some (.dK (kvR (foldR l))) := upd_same
      have lt3 : LT (upd H2 d1 (.dK (kvR (foldR l)))) D l trs := lt.keep fun u xs e => upd_atN hd1 e
      generalize upd H2 d1 (.dK (kvR (foldR l))) = H3 at *
      have hh3 := sH3 _ _ hh
      have hn3 := sH3 _ _ hn
      have hc3 := sH3 _ _ hc
      (repeat array_get_dec)
      refine ⟨cl, _, rfl, SqL.of hc3, fun cp hcp => ?_⟩
      rw [cutV_pre]
      have hn4 := upd_atN (o := .lst ((tc.take k).map V.ref)) hcp hn3
      (repeat array_get_dec)
      refine ⟨nd, cp, tc.take k, D.sure, D.ch.take k, rfl, hn4, upd_same, ChAt.take k (hp.tp.keep fun u m o e => upd_atN hcp (sH3 _ _ e)), okA_take wfd.ok k, by have := sm.sure; have := sm.ch; rw [List.length_take]; omega, wfd.nd, fun p5 H5 s5 pH5 h5 => ?_⟩
      have s35 : Same H3 H5 := fun b o e => s5 _ _ (upd_atN hcp e)
      have sH5 : Same H H5 := fun b o e => s35 _ _ (sH3 _ _ e)
      have hd5 := s35 _ _ hd
      have lt5 : LT H5 D l trs := lt3.keep fun u xs e => s35 _ _ e
      have p5H : H p5 = none := by
        cases e : H p5 with
        | none => rfl
        | some o => rw [upd_atN hcp (sH3 _ _ e)] at pH5; cases pH5
      have d1p : d1 ≠ p5 := ne_of_none (upd_atN (o := .lst ((tc.take k).map V.ref)) hcp hd) pH5
      have hi5 := sH5 _ _ hi
      have eN : (foundD D k (toldD D trs)).names = applyA D.sure (D.ch.take k) := rfl
      generalize hL : applyA D.sure (D.ch.take k) = L at *
      have ndL : (L.map (·.1)).Nodup := by rw [← eN]; exact wfF.ndN
      have lenL : L.length < 64 := by rw [← eN]; exact smF.names
      (repeat array_get_dec)
      refine ⟨b, fb, foundD D k (toldD D trs), rfl, dk.1.same sH5, fun p6 hp6 => ?_⟩
      rw [eN]
      (repeat array_get_dec)
      refine ⟨p5, kvT L, L.map fun p => mkS p.1, rfl, Rd.of (upd_atN hp6 h5), kvT_keys _, by rw [List.length_map]; exact lenL, fun ys p7 hpm hst hp7 => ?_⟩
      have e : ys = (srt (L.map (·.1))).map mkS := srtS (by rw [List.map_map]; exact hpm) hst
      rw [e, List.map_map]
      (repeat array_get_dec)
      refine ⟨.ref p6, .ref p7, .list (dS (srt (L.map (·.1)))), rfl, dS_dp (upd_atN hp7 upd_same), dS_dp upd_same, okD_dS (by rw [(srt_perm _).length_eq, List.length_map]; omega), fun H8 s8 => ?_⟩
      have s58 : Same H5 H8 := fun b o e => s8 _ _ (upd_atN hp7 (upd_atN hp6 e))
      have sH8 : Same H H8 := fun b o e => s58 _ _ (sH5 _ _ e)
      have hi8 := sH8 _ _ hi
      (repeat array_get_dec)
      refine ⟨b, fb, foundD D k (toldD D trs), rfl, dk.1.same sH8, ?_⟩
      (repeat array_get_dec)
      refine ⟨b, fb, foundD D k (toldD D trs), rfl, dk.same sH8, fun p9 H9 s9 fp9 hp9 => ?_⟩
      have hp9' : H9 p9 = some (.lst ([].map sv)) := by
        rw [hp9]
        exact congrArg (fun z => some (HO.lst (List.map sv z))) (late_found wfd)
      (repeat array_get_dec)
      refine ⟨by show 0 ≤ sizeLine; decide, fun e9 he9 => ?_⟩
      refine w_neT (l := []) (m := []) (upd_atN he9 hp9') upd_same (fun x m => by cases m) (fun x m => by cases m) ?_
      have s10 : Same H8 (upd H9 e9 (.lst [])) := fun b o e => upd_atN he9 (s9 _ _ e)
      have sH10 : Same H (upd H9 e9 (.lst [])) := fun b o e => s10 _ _ (sH8 _ _ e)
      have h10 := s10 _ _ (s58 _ _ h5)
      have hd10 := s10 _ _ (s58 _ _ hd5)
      have lt10 : LT (upd H9 e9 (.lst [])) D l trs := lt5.keep fun u xs e => s10 _ _ (s58 _ _ e)
      generalize upd H9 e9 (.lst []) = H10 at *
      (repeat array_get_dec)
      refine ⟨p5, _, h10, trivial, fun od => ?_⟩
      have sHf : Same H (upd H10 p5 (.frz od (.dK (kvT L)))) := fun b o e => by rw [upd_ne (ne_of_none e p5H)]; exact sH10 _ _ e
      have hdf : upd H10 p5 (.frz od (.dK (kvT L))) d1 = some (.dK (kvR (foldR l))) := by rw [upd_ne d1p]; exact hd10
      have ltf : LT (upd H10 p5 (.frz od (.dK (kvT L)))) D l trs := lt10.keep fun u xs e => by
        rw [upd_ne fun z => by rw [z, h10] at e; cases e]
        exact e
      (repeat array_get_dec)
      refine for_keys (d := p5) (od := od) (kvs := kvT L) (fun i σ H' => ∃ v6 v7 v8 v10 v11, σ = [some (.ref b), some (.ref h), some (.int (k : Int)), some (.ref c), some (.ref p), some (.ref d1), v6, v7, v8, some (.ref p5), v10, v11] ∧ Same (upd H10 p5 (.frz od (.dK (kvT L)))) H') ⟨_, _, _, _, _, rfl, Same.refl _⟩ ?_ ?_ ?_
      · rintro i σ H' _ ⟨v6, v7, v8, v10, v11, rfl, s4⟩
        exact s4 _ _ upd_same
      · rintro i ky v σ H' hkv ⟨v6, v7, v8, v10, v11, rfl, s4⟩
        obtain ⟨⟨x, n⟩, hLi, ekv⟩ : ∃ p, L[i]? = some p ∧ (ky, v) = ((Sum.inr (mkS p.1) : Key), V.int (p.2 : Int)) := by
          unfold kvT at hkv
          rw [List.getElem?_map] at hkv
          cases e : L[i]? with
          | none => rw [e] at hkv; cases hkv
          | some p => rw [e] at hkv; exact ⟨p, rfl, (Option.some.inj hkv).symm⟩
        cases ekv
        have mL := List.mem_of_getElem? hLi
        have gx : getA L x = some n := getA_of_mem ndL mL
        have gxF : getA (foundD D k (toldD D trs)).names x = some n := by rw [eN]; exact gx
        have e1 : valV (kvT L) (Sum.inr (mkS x)) = some (.int ((n : Nat) : Int)) := by rw [kvT_val, gx]; rfl
        have hfz := s4 _ _ (upd_same (H := H10) (a := p5) (o := .frz od (.dK (kvT L))))
        have sH4 : Same H H' := fun b o e => s4 _ _ (sHf _ _ e)
        have hh4 := sH4 _ _ hh
        have hf4 := sH4 _ _ hf
        have hi4 := sH4 _ _ hi
        have hd4 := s4 _ _ hdf
        have numn : numsD D n := nums_take (k := k) (by rw [hL]; exact List.mem_map_of_mem (f := (·.2)) mL)
        have lti : n < fs.length := by rw [hp.len]; exact wfd.nx n numn
        have hfi : fs[n]? = some fs[n] := List.getElem?_eq_getElem lti
        have ff := sH4 _ _ (hp.ff n _ hfi)
        have af : atI (fs.map V.ref) (n : Int) = some (.ref fs[n]) := atI_nat (by rw [List.getElem?_map, hfi]; rfl)
        have c0 : atI [sv (keptD D n), sv (lateD D n)] (0 : Int) = some (sv (keptD D n)) := atI_nat (j := 0) rfl
        have c1 : atI [sv (keptD D n), sv (lateD D n)] (1 : Int) = some (sv (lateD D n)) := atI_nat (j := 1) rfl
        obtain ⟨t0, ht0⟩ := Option.isSome_iff_exists.mp (wfd.kp n numn)
        obtain ⟨u0, hu0⟩ := Option.isSome_iff_exists.mp (wfd.lt n numn)
        have b1 : (keptD D n).length ≤ 400000 := by unfold keptD; rw [ht0]; exact sm.kt _ (getA_mem ht0)
        have b2 : (lateD D n).length ≤ 400000 := by unfold lateD; rw [hu0]; exact sm.lt _ (getA_mem hu0)
        obtain ⟨kf, lf⟩ := kept_found (D := D) (k := k) (n := n) (told := toldD D trs) (by rw [hL]; exact List.mem_map_of_mem (f := (·.2)) mL)
        have z1 : (mkS (lateD D n)).length ≤ sizeLine := by rw [sizeLine_eq, len_tl]; show (lateD D n).length ≤ _; omega
        dsimp only [kV]
        (repeat array_get_dec)
        refine ⟨d1, _, rfl, DGet.k (k := Sum.inl ((n : Nat) : Int)) hd4, ?_⟩
        rw [kvR_val]
        rcases (ltf n) with ⟨q, s, bb, hq, hqt, hsl, hb0, ht⟩ | ⟨hq, ht⟩
        · have e3 : valV (kvR (foldR l)) (Sum.inl ((n : Nat) : Int)) = some (.ref q) := by rw [kvR_val, hq]; rfl
          have hqt4 := s4 _ _ hqt
          rw [hq]
          (repeat array_get_dec)
          rw [cut_pre]
          have tmu : tl (mkS (lateD D n)) = lateD D n := rfl
          rw [tmu]
          have lt1 : ((lateD D n).take s).length ≤ 400000 := by rw [List.length_take]; omega
          have z4 : (mkS ((lateD D n).take s)).length ≤ sizeLine := by rw [sizeLine_eq, len_tl]; show ((lateD D n).take s).length ≤ _; omega
          cases bb with
          | false =>
            have hi5 := sH4 _ _ hi
            (repeat array_get_dec)
            refine ⟨b, fb, foundD D k (toldD D trs), x, n, rfl, dk.same (sH4), gxF, ?_⟩
            have hh5 := sH4 _ _ hh
            have hf5 := sH4 _ _ hf
            have ff5 := sH4 _ _ (hp.ff n _ hfi)
            (repeat array_get_dec)
            refine w_addS (fit_add (s := mkS (keptD D n)) (t := mkS ((lateD D n).take s)) (a := 400000) (b := 400001) (by rw [len_tl]; exact b1) (by rw [len_tl]; exact (by show ((lateD D n).take s).length ≤ _; omega)) (by omega)) ?_
            rw [mkS_app]
            (repeat array_get_dec)
            have er5 : readD (foundD D k (toldD D trs)) n = keptD D n ++ ((lateD D n).take s) := by
              unfold readD
              rw [kf, lf, (ht.trans (show partT (lateD D n) s false = (lateD D n).take s from rfl)), List.append_nil]
            refine ⟨sv (readD (foundD D k (toldD D trs)) n), sv (keptD D n ++ ((lateD D n).take s)), .str (mkS (keptD D n ++ ((lateD D n).take s))), rfl, by rw [er5]; exact .str _, .str _, trivial, fun H6 s6 => ?_⟩
            have sH6 : Same H H6 := fun b o e => s6 _ _ ((sH4) _ _ e)
            have hi6 := sH6 _ _ hi
            (repeat array_get_dec)
            refine ⟨b, fb, foundD D k (toldD D trs), x, n, rfl, dk.same sH6, gxF, ?_⟩
            (repeat array_get_dec)
            refine ⟨b, fb, foundD D k (toldD D trs), x, n, rfl, dk.same sH6, gxF, ?_⟩
            have ekr : readD (foundD D k (toldD D trs)) n = keptD (foundD D k (toldD D trs)) n := by
              unfold readD
              rw [lf, List.append_nil]
            rw [ekr]
            (repeat array_get_dec)
            refine iteF' (ne_self _) ?_
            exact ⟨_, _, _, _, _, rfl, fun b o e => s6 _ _ (s4 _ _ e)⟩
          | true =>
            have s0 := hb0 rfl
            have ls : ((lateD D n).take s).length = s := by rw [List.length_take]; omega
            (repeat array_get_dec)
            rw [len_tl]
            have tm2 : tl (mkS ((lateD D n).take s)) = (lateD D n).take s := rfl
            rw [tm2, show (((((lateD D n).take s).length : Nat) : Int) - 1) = (((s - 1 : Nat)) : Int) by rw [ls]; omega]
            (repeat array_get_dec)
            rw [cut_pre, tm2]
            have edl : ((lateD D n).take s).take (s - 1) = ((lateD D n).take s).dropLast := by rw [List.dropLast_eq_take, ls]
            rw [edl]
            have eq : Str.ofString "?" = mkS [63] := by decide +kernel
            rw [eq]
            refine w_addS (fit_add (s := mkS ((lateD D n).take s).dropLast) (t := mkS [63]) (a := 400000) (b := 1) (by rw [len_tl]; show (((lateD D n).take s).dropLast).length ≤ _; rw [List.length_dropLast]; omega) (by decide +kernel) (by omega)) ?_
            rw [mkS_app]
            have hi5 := sH4 _ _ hi
            (repeat array_get_dec)
            refine ⟨b, fb, foundD D k (toldD D trs), x, n, rfl, dk.same (sH4), gxF, ?_⟩
            have hh5 := sH4 _ _ hh
            have hf5 := sH4 _ _ hf
            have ff5 := sH4 _ _ (hp.ff n _ hfi)
            (repeat array_get_dec)
            refine w_addS (fit_add (s := mkS (keptD D n)) (t := mkS (((lateD D n).take s).dropLast ++ [63])) (a := 400000) (b := 400001) (by rw [len_tl]; exact b1) (by rw [len_tl]; exact (by show (((lateD D n).take s).dropLast ++ [63]).length ≤ _; rw [List.length_append, List.length_dropLast]; simp; omega)) (by omega)) ?_
            rw [mkS_app]
            (repeat array_get_dec)
            have er5 : readD (foundD D k (toldD D trs)) n = keptD D n ++ (((lateD D n).take s).dropLast ++ [63]) := by
              unfold readD
              rw [kf, lf, (ht.trans (show partT (lateD D n) s true = ((lateD D n).take s).dropLast ++ [63] from rfl)), List.append_nil]
            refine ⟨sv (readD (foundD D k (toldD D trs)) n), sv (keptD D n ++ (((lateD D n).take s).dropLast ++ [63])), .str (mkS (keptD D n ++ (((lateD D n).take s).dropLast ++ [63]))), rfl, by rw [er5]; exact .str _, .str _, trivial, fun H6 s6 => ?_⟩
            have sH6 : Same H H6 := fun b o e => s6 _ _ ((sH4) _ _ e)
            have hi6 := sH6 _ _ hi
            (repeat array_get_dec)
            refine ⟨b, fb, foundD D k (toldD D trs), x, n, rfl, dk.same sH6, gxF, ?_⟩
            (repeat array_get_dec)
            refine ⟨b, fb, foundD D k (toldD D trs), x, n, rfl, dk.same sH6, gxF, ?_⟩
            have ekr : readD (foundD D k (toldD D trs)) n = keptD (foundD D k (toldD D trs)) n := by
              unfold readD
              rw [lf, List.append_nil]
            rw [ekr]
            (repeat array_get_dec)
            refine iteF' (ne_self _) ?_
            exact ⟨_, _, _, _, _, rfl, fun b o e => s6 _ _ (s4 _ _ e)⟩
        · rw [hq]
          (repeat array_get_dec)
          refine ⟨by show 2 ≤ sizeLine; decide, fun q1 hq1 => ?_⟩
          have sQ : Same H (upd H' q1 (.tup [.int 0, .bl false])) := fun b o e => upd_atN hq1 (sH4 _ _ e)
          have hh6 := sQ _ _ hh
          have hf6 := sQ _ _ hf
          have ff6 := sQ _ _ (hp.ff n _ hfi)
          (repeat array_get_dec)
          have e0 : cutS (mkS (lateD D n)) none (some 0) = mkS [] := by
            rw [show (0 : Int) = ((0 : Nat) : Int) from rfl, cut_pre, List.take_zero]
          rw [e0]
          have hi5 := sQ _ _ hi
          (repeat array_get_dec)
          refine ⟨b, fb, foundD D k (toldD D trs), x, n, rfl, dk.same (sQ), gxF, ?_⟩
          have hh5 := sQ _ _ hh
          have hf5 := sQ _ _ hf
          have ff5 := sQ _ _ (hp.ff n _ hfi)
          (repeat array_get_dec)
          refine w_addS (fit_add (s := mkS (keptD D n)) (t := mkS ([])) (a := 400000) (b := 400001) (by rw [len_tl]; exact b1) (by rw [len_tl]; exact (by decide)) (by omega)) ?_
          rw [mkS_app]
          (repeat array_get_dec)
          have er5 : readD (foundD D k (toldD D trs)) n = keptD D n ++ ([]) := by
            unfold readD
            rw [kf, lf, ht, List.append_nil]
          refine ⟨sv (readD (foundD D k (toldD D trs)) n), sv (keptD D n ++ ([])), .str (mkS (keptD D n ++ ([]))), rfl, by rw [er5]; exact .str _, .str _, trivial, fun H6 s6 => ?_⟩
          have sH6 : Same H H6 := fun b o e => s6 _ _ ((sQ) _ _ e)
          have hi6 := sH6 _ _ hi
          (repeat array_get_dec)
          refine ⟨b, fb, foundD D k (toldD D trs), x, n, rfl, dk.same sH6, gxF, ?_⟩
          (repeat array_get_dec)
          refine ⟨b, fb, foundD D k (toldD D trs), x, n, rfl, dk.same sH6, gxF, ?_⟩
          have ekr : readD (foundD D k (toldD D trs)) n = keptD (foundD D k (toldD D trs)) n := by
            unfold readD
            rw [lf, List.append_nil]
          rw [ekr]
          (repeat array_get_dec)
          refine iteF' (ne_self _) ?_
          exact ⟨_, _, _, _, _, rfl, fun b o e => s6 _ _ (upd_atN hq1 (s4 _ _ e))⟩
      · rintro σ H' ⟨v6, v7, v8, v10, v11, rfl, s4⟩
        have hfz := s4 _ _ (upd_same (H := H10) (a := p5) (o := .frz od (.dK (kvT L))))
        refine ⟨hfz, ?_⟩
        (repeat array_get_dec)
        exact q _ fun b o e => by rw [upd_ne (ne_of_none e p5H)]; exact s4 _ _ (sHf _ _ e)
end
end K50

namespace K50
open PySem PySem.Spec PyProof.Rows L2
/-! ### bounds of the law's own disks -/
def W3 : List Tx := [tl (Str.ofString "one"), tl (Str.ofString "two"), tl (Str.ofString "three")]
def toC : Chg → Tx
  | .make x _ => x
  | .move _ y => y
  | .drop _ => tl (Str.ofString "one")
theorem W3_one : tl (Str.ofString "one") ∈ W3 := by simp [W3]
theorem applyC_keys {l : Nm} {c : Chg} (h : ∀ p ∈ l, p.1 ∈ W3) (hc : toC c ∈ W3) : ∀ p ∈ applyC l c, p.1 ∈ W3 := by
  intro p m
  cases c with
  | make x n =>
    rcases putA_mem m with m | m
    · exact h p m
    · rw [m]; exact hc
  | move x y =>
    rw [show applyC l (.move x y) = (match getA l x with | some n => putA (dropA l x) y n | none => l) from rfl] at m
    cases e : getA l x with
    | none => rw [e] at m; exact h p m
    | some n =>
      rw [e] at m
      rcases putA_mem m with m | m
      · exact h p (dropA_mem m)
      · rw [m]; exact hc
  | drop x => exact h p (dropA_mem m)
theorem applyA_keys : ∀ {cs : List Chg} {l : Nm}, (∀ p ∈ l, p.1 ∈ W3) → (∀ c ∈ cs, toC c ∈ W3) → ∀ p ∈ applyA l cs, p.1 ∈ W3
  | [], _, h, _ => h
  | c :: r, l, h, hc => applyA_keys (cs := r) (applyC_keys h (hc c List.mem_cons_self)) fun d m => hc d (List.mem_cons_of_mem _ m)
structure bnd (n : Nat) (D : DS) : Prop where
  kept : D.kept.length ≤ n
  late : D.late.length ≤ n
  sure : D.sure.length ≤ n
  names : D.names.length ≤ n
  ch : D.ch.length ≤ n
  nx : D.next ≤ n
  ndk : (D.kept.map (·.1)).Nodup
  ndl : (D.late.map (·.1)).Nodup
  tx : ∀ i, (keptD D i).length + (lateD D i).length ≤ 3 * n
  sk : ∀ p ∈ D.sure, p.1 ∈ W3
  ck : ∀ c ∈ D.ch, toC c ∈ W3
theorem W3_na : ∀ x ∈ W3, ∀ c ∈ x, c < 1114112 := by decide +kernel
theorem W3_no : tl (Str.ofString "nobodyhere") ∉ W3 := by decide +kernel
theorem bnd.keys {n : Nat} {D : DS} (b : bnd n D) (w : wf D) : ∀ p ∈ D.names, p.1 ∈ W3 := by rw [w.nm]; exact applyA_keys b.sk b.ck
theorem bnd.bd {n : Nat} {D : DS} (b : bnd n D) (w : wf D) (h : n ≤ 60) : bd D := by
  refine ⟨by have := b.kept; omega, by have := b.late; omega, by have := b.names; omega, by have := b.sure; omega, by have := b.ch; omega, fun p m => ?_, fun p m => ?_, fun p m => W3_na _ (b.keys w p m)⟩
  · have := b.tx p.1
    have e : keptD D p.1 = p.2 := by unfold keptD; rw [getA_of_mem b.ndk (x := p.1) (v := p.2) m]; rfl
    rw [e] at this
    omega
  · have := b.tx p.1
    have e : lateD D p.1 = p.2 := by unfold lateD; rw [getA_of_mem b.ndl (x := p.1) (v := p.2) m]; rfl
    rw [e] at this
    omega
theorem bnd.mono {n m : Nat} {D : DS} (b : bnd n D) (h : n ≤ m) : bnd m D := ⟨by have := b.kept; omega, by have := b.late; omega, by have := b.sure; omega, by have := b.names; omega, by have := b.ch; omega, by have := b.nx; omega, b.ndk, b.ndl, fun i => by have := b.tx i; omega, b.sk, b.ck⟩
theorem bnd_none : bnd 0 noneD := ⟨by decide, by decide, by decide, by decide, by decide, by decide, List.nodup_nil, List.nodup_nil, fun i => by show ([] : Tx).length + ([] : Tx).length ≤ _; simp, fun p m => (by cases m), fun p m => (by cases m)⟩
def okRow : Row → Prop
  | .make x => x = [] ∨ x ∈ W3
  | .write _ t => t.length ≤ 3
  | .move _ y => y = [] ∨ y ∈ W3
  | _ => True
theorem bnd_ch {n : Nat} {D : DS} (b : bnd n D) {c : Chg} (h : toC c ∈ W3) : bnd (n + 1) (chD D c) := by
  refine ⟨by have := b.kept; show D.kept.length ≤ _; omega, by have := b.late; show D.late.length ≤ _; omega, by have := b.sure; show D.sure.length ≤ _; omega, ?_, ?_, by have := b.nx; show D.next ≤ _; omega, b.ndk, b.ndl, fun i => by have := b.tx i; show (keptD D i).length + (lateD D i).length ≤ _; omega, b.sk, fun d m => ?_⟩
  · have := applyC_len D.names c
    have := b.names
    show (applyC D.names c).length ≤ _
    omega
  · have := b.ch
    show (D.ch ++ [c]).length ≤ _
    rw [List.length_append]
    simp
    omega
  · rcases List.mem_append.mp m with m | m
    · exact b.ck d m
    · simp at m
      subst m
      exact h
theorem bnd_put {n : Nat} {D : DS} (b : bnd n D) {i : Nat} {t u : Tx} (h : t.length + u.length ≤ 3 * n + 3) : bnd (n + 1) { D with kept := putA D.kept i t, late := putA D.late i u } := by
  have k1 := putA_len (l := D.kept) (x := i) (v := t)
  have k2 := putA_len (l := D.late) (x := i) (v := u)
  refine ⟨by have := b.kept; show (putA D.kept i t).length ≤ _; omega, by have := b.late; show (putA D.late i u).length ≤ _; omega, by have := b.sure; show D.sure.length ≤ _; omega, by have := b.names; show D.names.length ≤ _; omega, by have := b.ch; show D.ch.length ≤ _; omega, by have := b.nx; show D.next ≤ _; omega, putA_nodup b.ndk, putA_nodup b.ndl, fun j => ?_, b.sk, b.ck⟩
  have := b.tx j
  unfold keptD lateD at this ⊢
  show ((getA (putA D.kept i t) j).getD []).length + ((getA (putA D.late i u) j).getD []).length ≤ _
  rw [getD_put, getD_put]
  split <;> omega
theorem bnd_step {n : Nat} {D : DS} (b : bnd n D) (w : wf D) (r : Row) (h : okRow r) : bnd (n + 1) (step D r).1 := by
  have up := b.mono (Nat.le_succ n)
  cases r with
  | make x =>
    simp only [step]
    split
    · exact up
    · rename_i hx
      have hw : x ∈ W3 := h.elim (fun z => absurd (.inl z) hx) id
      have b1 : bnd (n + 1) (openD D) := by
        refine bnd_put b ?_
        simp
      refine ⟨b1.kept, b1.late, b1.sure, ?_, ?_, ?_, b1.ndk, b1.ndl, b1.tx, b1.sk, fun c m => ?_⟩
      · have := applyC_len D.names (.make x D.next)
        have := b.names
        show (applyC D.names (.make x D.next)).length ≤ _
        omega
      · have := b.ch
        show (D.ch ++ [Chg.make x D.next]).length ≤ _
        rw [List.length_append]; simp; omega
      · have := b.nx
        show D.next + 1 ≤ _
        omega
      · rcases List.mem_append.mp m with m | m
        · exact b.ck c m
        · simp at m
          subst m
          exact hw
  | names =>
    exact ⟨up.kept, up.late, up.names, up.names, Nat.zero_le _, up.nx, up.ndk, up.ndl, up.tx, b.keys w, fun c m => by cases m⟩
  | write x t =>
    simp only [step]
    cases e : getA D.names x with
    | none => exact up
    | some i =>
      dsimp only
      split
      · exact up
      · have ht : t.length ≤ 3 := h
        have := b.tx i
        have k2 := putA_len (l := D.late) (x := i) (v := lateD D i ++ t)
        refine ⟨up.kept, by have := b.late; show (putA D.late i _).length ≤ _; omega, up.sure, up.names, up.ch, up.nx, up.ndk, putA_nodup b.ndl, fun j => ?_, up.sk, up.ck⟩
        have tj := b.tx j
        have e : lateD (writeD D i t) j = if j = i then lateD D i ++ t else lateD D j := getD_put
        show (keptD D j).length + (lateD (writeD D i t) j).length ≤ _
        rw [e]
        split
        · rename_i ej
          subst ej
          rw [List.length_append]
          omega
        · omega
  | sync x =>
    simp only [step]
    cases e : getA D.names x with
    | none => exact up
    | some i =>
      refine bnd_put b ?_
      have := b.tx i
      unfold readD
      rw [List.length_append]
      simp
      omega
  | move x y =>
    simp only [step]
    cases e : getA D.names x with
    | none => exact up
    | some i =>
      dsimp only
      split
      · exact up
      · rename_i hx
        exact bnd_ch b (h.elim (fun z => absurd (.inr z) hx) id)
  | drop x =>
    simp only [step]
    cases e : getA D.names x with
    | none => exact up
    | some i => exact bnd_ch b W3_one
  | cut x v =>
    simp only [step]
    cases e : getA D.names x with
    | none => exact up
    | some i =>
      dsimp only
      cases inIB (readD D i).length v with
      | none => exact up
      | some m =>
        refine bnd_put b ?_
        have := b.tx i
        rw [List.length_take]
        unfold readD
        rw [List.length_append]
        simp
        omega
theorem told_le {D : DS} {trs : List Tear} (n : Nat) : (toldA (toldD D trs) n).length ≤ (lateD D n).length + 1 := by
  suffices h : ∀ (l : List Tear) (acc : List (Nat × Tx)), (∀ n, (toldA acc n).length ≤ (lateD D n).length + 1) → ∀ n, (toldA (l.foldl (toldS D) acc) n).length ≤ (lateD D n).length + 1 from h trs [] (fun n => by show (([] : Tx)).length ≤ _; simp) n
  intro l
  induction l with
  | nil => intro acc h; exact h
  | cons t r ih =>
    intro acc h
    refine ih (toldS D acc t) fun n => ?_
    unfold toldS
    split
    · rename_i x s b
      split
      · rename_i i hi
        unfold toldA
        rw [getD_put]
        split
        · rename_i en
          subst en
          unfold partT
          split
          · rw [List.length_append, List.length_dropLast, List.length_take]
            simp
            omega
          · rw [List.length_take]; omega
        · exact h n
      · exact h n
    · exact h n
theorem bd_found {n k : Nat} {D : DS} (b : bnd n D) (w : wf D) (h : n ≤ 30) (trs : List Tear) : bd (foundD D k (toldD D trs)) := by
  have lenL : (applyA D.sure (D.ch.take k)).length ≤ 60 := by
    have h1 := applyA_len (D.ch.take k) D.sure
    have := b.sure
    have := b.ch
    rw [List.length_take] at h1
    omega
  have k1 := foldP_len (g := fun n => keptD D n ++ toldA (toldD D trs) n) (L := applyA D.sure (D.ch.take k)) (acc := [])
  have k2 := foldP_len (g := fun _ => []) (L := applyA D.sure (D.ch.take k)) (acc := [])
  have e1 : (foundD D k (toldD D trs)).kept = foldP (fun n => keptD D n ++ toldA (toldD D trs) n) (applyA D.sure (D.ch.take k)) [] := rfl
  have e2 : (foundD D k (toldD D trs)).late = foldP (fun _ => []) (applyA D.sure (D.ch.take k)) [] := rfl
  refine ⟨by rw [e1]; simp at k1; omega, by rw [e2]; simp at k2; omega, by show (applyA D.sure (D.ch.take k)).length < 64; omega, by show (applyA D.sure (D.ch.take k)).length ≤ 1000; omega, by show ([] : List Chg).length ≤ _; simp, fun p m => ?_, fun p m => ?_, fun p m => ?_⟩
  · rw [e1] at m
    rcases foldP_mem m with m | ⟨j, _, rfl⟩
    · cases m
    · have := b.tx j
      have := told_le (D := D) (trs := trs) j
      show (keptD D j ++ toldA (toldD D trs) j).length ≤ _
      rw [List.length_append]
      omega
  · rw [e2] at m
    rcases foldP_mem m with m | ⟨j, _, rfl⟩
    · cases m
    · show ([] : Tx).length ≤ _
      simp
  · exact W3_na _ (applyA_keys b.sk (fun c mc => b.ck c (List.mem_of_mem_take mc)) p m)
/-- every tear told in full is what nothing lost tells -/
def everyT (D : DS) : List Tear := (srt (D.names.map (·.1))).map fun x => .three x (((lateD D ((getA D.names x).getD 0)).length : Nat) : Int) (.bl false)
theorem toldA_step {D : DS} {acc : List (Nat × Tx)} {x : Tx} {i n : Nat} (h : getA D.names x = some i) : toldA (toldS D acc (.three x ((lateD D i).length : Int) (.bl false))) n = if n = i then lateD D i else toldA acc n := by
  unfold toldS
  dsimp only
  rw [h]
  dsimp only
  unfold toldA
  rw [getD_put, Int.toNat_natCast]
  split
  · unfold partT
    rw [if_neg (by decide), List.take_length]
  · rfl
theorem told_every {D : DS} {l : List Tx} (hl : ∀ x ∈ l, (getA D.names x).isSome = true) {n : Nat} : ∀ (acc : List (Nat × Tx)), toldA ((l.map fun x => Tear.three x (((lateD D ((getA D.names x).getD 0)).length : Nat) : Int) (.bl false)).foldl (toldS D) acc) n = if ∃ x ∈ l, getA D.names x = some n then lateD D n else toldA acc n := by
  induction l with
  | nil => intro acc; rw [if_neg (fun ⟨x, m, _⟩ => by cases m)]; rfl
  | cons x r ih =>
    intro acc
    obtain ⟨i, hi⟩ := Option.isSome_iff_exists.mp (hl x List.mem_cons_self)
    have ih2 := ih (fun y m => hl y (List.mem_cons_of_mem _ m))
    show toldA ((r.map _).foldl (toldS D) (toldS D acc (.three x (((lateD D ((getA D.names x).getD 0)).length : Nat) : Int) (.bl false)))) n = _
    rw [ih2, show (getA D.names x).getD 0 = i by rw [hi]; rfl, toldA_step hi]
    by_cases e1 : ∃ y ∈ r, getA D.names y = some n
    · rw [if_pos e1, if_pos (by obtain ⟨y, m, e⟩ := e1; exact ⟨y, List.mem_cons_of_mem _ m, e⟩)]
    · rw [if_neg e1]
      by_cases e2 : n = i
      · rw [if_pos e2, if_pos ⟨x, List.mem_cons_self, by rw [hi, e2]⟩, e2]
      · rw [if_neg e2, if_neg]
        rintro ⟨y, m, e⟩
        rcases List.mem_cons.mp m with rfl | m
        · rw [hi] at e; cases e; exact e2 rfl
        · exact e1 ⟨y, m, e⟩
theorem names_some {D : DS} {x : Tx} (h : x ∈ srt (D.names.map (·.1))) : (getA D.names x).isSome = true := getA_has.mpr ((srt_perm _).mem_iff.mp h)
theorem told_same {D : DS} (w : wf D) {n : Nat} (h : n ∈ D.names.map (·.2)) : toldA (toldD D (allT D)) n = toldA (toldD D (everyT D)) n := by
  unfold toldD allT everyT
  rw [told_every (l := lateN D) (fun x m => getA_has.mpr ((srt_perm _).mem_iff.mp (List.mem_filter.mp m).1)), told_every (l := srt (D.names.map (·.1))) fun x m => names_some m]
  obtain ⟨⟨x, m⟩, hp, rfl⟩ := List.mem_map.mp h
  have gx : getA D.names x = some m := getA_of_mem w.ndN hp
  have mx : x ∈ srt (D.names.map (·.1)) := (srt_perm _).mem_iff.mpr (List.mem_map_of_mem (f := (·.1)) hp)
  rw [if_pos (show ∃ y ∈ srt (D.names.map (·.1)), getA D.names y = some m from ⟨x, mx, gx⟩)]
  split
  · rfl
  · rename_i no
    show toldA [] m = lateD D m
    cases e : lateD D m with
    | nil => rfl
    | cons a r =>
      refine absurd ⟨x, List.mem_filter.mpr ⟨mx, decide_eq_true ?_⟩, gx⟩ no
      rw [gx]
      show lateD D m ≠ []
      rw [e]; simp
theorem foldP_congr {g g' : Nat → Tx} : ∀ {L : Nm} {acc : List (Nat × Tx)}, (∀ n ∈ L.map (·.2), g n = g' n) → foldP g L acc = foldP g' L acc
  | [], _, _ => rfl
  | p :: r, acc, h => by
    show foldP g r (putA acc p.2 (g p.2)) = foldP g' r (putA acc p.2 (g' p.2))
    rw [h p.2 (by simp), foldP_congr fun n m => h n (by rw [List.map_cons]; exact List.mem_cons_of_mem _ m)]
theorem found_every {D : DS} (w : wf D) : foundD D D.ch.length (toldD D (allT D)) = foundD D D.ch.length (toldD D (everyT D)) := by
  unfold foundD
  have e : applyA D.sure (D.ch.take D.ch.length) = D.names := by rw [List.take_length, w.nm]
  rw [e, foldP_congr fun n m => by rw [told_same w m]]
theorem every_ok {D : DS} : ∀ t ∈ everyT D, okTear D t := by
  intro t m
  obtain ⟨x, hx, rfl⟩ := List.mem_map.mp m
  obtain ⟨i, hi⟩ := Option.isSome_iff_exists.mp (names_some hx)
  refine ⟨⟨i, hi, ?_⟩, false, rfl, fun z => by cases z.1⟩
  rw [hi]
  show (inIB (lateD D i).length (.int ((lateD D i).length : Int))).isSome = true
  rw [inIB_all]; rfl
end K50

namespace K50
open PySem PySem.Spec PyProof.Rows L2
local macro_rules | `(tactic| array_mem_dec) => `(tactic| first | with_reducible assumption | with_reducible exact upd_same | ((with_reducible apply same_at); (with_reducible assumption); array_mem_dec) | ((with_reducible apply upd_atN); (with_reducible assumption); array_mem_dec) | ((with_reducible apply upd_at); (first | with_reducible assumption | (apply Ne.symm; with_reducible assumption)); array_mem_dec))
local macro_rules | `(tactic| array_get_dec) => `(tactic| first | (with_reducible refine w_seq ?_) | (with_reducible refine w_asg ?_) | (with_reducible refine w_drop ?_) | (with_reducible refine w_ret ?_) | (with_reducible refine w_retN ?_) | (with_reducible refine w_next ?_) | (with_reducible refine w_break ?_) | (with_reducible refine w_cont ?_) | (with_reducible refine w_ifS ?_) | (with_reducible refine w_sub ?_) | (with_reducible refine w_c ?_) | (with_reducible refine w_op ?_) | (with_reducible refine w_un ?_) | (with_reducible refine w_test ?_) | (with_reducible refine w_B ?_) | (with_reducible refine w_yes ?_) | (with_reducible refine w_not ?_) | (with_reducible refine w_and ?_) | (with_reducible refine w_or ?_) | (with_reducible refine w_andV ?_) | (with_reducible refine w_orV ?_) | (with_reducible refine w_notV ?_) | (with_reducible refine w_ifE ?_) | (with_reducible refine w_nil ?_) | (with_reducible refine w_cons ?_) | (with_reducible refine w_call ?_) | (with_reducible refine w_callS ?_) | (with_reducible refine w_cB ?_) | (with_reducible refine w_lst ?_) | (with_reducible refine w_tup ?_) | (with_reducible refine w_sl ?_) | (with_reducible refine w_noPart ?_) | (with_reducible refine w_part ?_) | (with_reducible refine w_bm ?_) | (with_reducible refine w_bm0 ?_) | (with_reducible refine w_strTy ?_) | (with_reducible refine w_bl ?_) | (with_reducible refine w_int1 ?_) | (with_reducible refine w_str1 ?_) | (with_reducible refine w_rI0 ?_) | (with_reducible refine w_rU ?_) | (with_reducible refine w_eqI ?_) | (with_reducible refine w_eqS ?_) | (with_reducible refine w_neI ?_) | (with_reducible refine w_neS ?_) | (with_reducible refine w_bl2 ?_) | (with_reducible refine w_isN ?_) | (with_reducible refine w_for ?_) | (with_reducible refine w_iRng1 ?_) | (with_reducible refine w_iRng2 ?_) | (with_reducible refine w_iList ?_) | (with_reducible refine w_iTup ?_) | (with_reducible refine w_iStr ?_) | (with_reducible refine w_lc ?_) | (with_reducible refine w_M1 ?_) | (with_reducible refine w_M0 ?_) | (with_reducible refine w_isS ?_) | ((with_reducible apply w_name); (simp only [wipe, List.map_cons, List.map_nil, List.foldl_cons, List.foldl_nil, List.set_cons_zero, List.set_cons_succ]; exact rfl)) | ((with_reducible apply w_var); exact rfl) | ((with_reducible apply w_lstTy); array_mem_dec) | ((with_reducible apply w_lenL); array_mem_dec) | ((with_reducible apply w_lenT); array_mem_dec) | ((with_reducible apply w_listOf); array_mem_dec) | ((with_reducible apply w_lenS); (first | (with_reducible assumption) | omega | (rw [sizeLine_eq]; omega))) | ((with_reducible apply w_slS); (first | (with_reducible assumption) | omega | (rw [sizeLine_eq]; omega))) | ((with_reducible apply w_wipe); exact rfl) | ((with_reducible apply w_acc); array_mem_dec; (try (first | (with_reducible assumption) | omega | (rw [sizeLine_eq]; omega)))) | ((with_reducible apply w_itl); array_mem_dec) | ((with_reducible apply w_itt); array_mem_dec) | ((with_reducible apply w_append); array_mem_dec; (try (first | (with_reducible assumption) | omega | (rw [sizeLine_eq]; omega)))) | ((with_reducible apply w_rng1); (first | (with_reducible assumption) | omega); (first | (with_reducible assumption) | omega)) | ((with_reducible apply w_ixL); array_mem_dec; (first | (with_reducible assumption) | exact rfl | (apply atI_nat; (with_reducible assumption)) | exact atI_last _ _)) | ((with_reducible apply w_ixT); array_mem_dec; (first | (with_reducible assumption) | exact rfl | (apply atI_nat; (with_reducible assumption)) | exact atI_last _ _)) | ((with_reducible apply w_iT); first | exact rfl | (with_reducible assumption)) | ((with_reducible apply w_iF); first | exact rfl | (with_reducible assumption)) | ((with_reducible apply w_isiI (b := true)); decide +kernel) | ((with_reducible apply w_isiI (b := false)); decide +kernel) | ((with_reducible apply w_isiB (b := true)); decide +kernel) | ((with_reducible apply w_isiB (b := false)); decide +kernel) | ((with_reducible apply w_isiS (b := true)); decide +kernel) | ((with_reducible apply w_isiS (b := false)); decide +kernel) | ((with_reducible apply w_isiN (b := true)); decide +kernel) | ((with_reducible apply w_isiN (b := false)); decide +kernel) | ((with_reducible apply w_isiL (b := true)); array_mem_dec; decide +kernel) | ((with_reducible apply w_isiL (b := false)); array_mem_dec; decide +kernel) | ((with_reducible apply w_isiT (b := true)); array_mem_dec; decide +kernel) | ((with_reducible apply w_isiT (b := false)); array_mem_dec; decide +kernel) | (with_reducible refine w_notT ?_) | (with_reducible refine w_chain ?_) | ((with_reducible apply w_trL); array_mem_dec) | ((with_reducible apply w_gTup); array_mem_dec; exact rfl) | ((with_reducible apply w_gLst); array_mem_dec; exact rfl) | (with_reducible refine w_gCons ?_) | (with_reducible refine w_gNil ?_) | (with_reducible refine w_Fld ?_) | (with_reducible refine w_sFld ?_) | (with_reducible refine w_dget ?_) | (with_reducible refine w_dIn ?_) | (with_reducible refine w_dNotIn ?_) | (with_reducible refine w_sDPut ?_) | (with_reducible refine w_dnewK ?_) | (with_reducible refine w_meth ?_) | (with_reducible refine w_make ?_) | (with_reducible refine w_methS ?_) | (with_reducible refine w_makeS ?_) | (with_reducible refine w_dpop ?_) | ((with_reducible apply w_fld1); array_mem_dec; (with_reducible assumption); (with_reducible assumption); exact rfl) | ((with_reducible apply w_sfld1); array_mem_dec; (with_reducible assumption); (with_reducible assumption); exact Nat.le_of_ble_eq_true rfl) | ((with_reducible apply w_meth1); array_mem_dec; exact rfl) | ((with_reducible apply w_dgetS); array_mem_dec; (with_reducible assumption)) | ((with_reducible apply w_dgetI); array_mem_dec; (with_reducible assumption)) | ((with_reducible apply w_dinS); array_mem_dec) | ((with_reducible apply w_dputI); array_mem_dec; (try (first | (with_reducible assumption) | omega | (rw [sizeLine_eq]; omega)))) | ((with_reducible apply w_dputS); array_mem_dec; (try (first | (with_reducible assumption) | omega | (rw [sizeLine_eq]; omega)))) | ((with_reducible apply w_isD); array_mem_dec) | ((with_reducible apply w_dictD); array_mem_dec) | ((with_reducible apply w_dpopS); array_mem_dec; (with_reducible assumption)) | ((with_reducible apply w_setL); array_mem_dec; exact rfl) | ((with_reducible apply w_cat); array_mem_dec; array_mem_dec; (try (first | (with_reducible assumption) | omega | (rw [sizeLine_eq]; omega)))) | (with_reducible refine w_iKeys ?_) | (with_reducible refine w_dget2 ?_) | (with_reducible refine w_scX ?_) | ((with_reducible apply w_keysF); array_mem_dec) | ((with_reducible apply w_dgetSF); array_mem_dec; (with_reducible assumption)))
/-! ### the law -/
abbrev wordsV : List V := [.str (Str.ofString "one"), .str (Str.ofString "two"), .str (Str.ofString "three")]
structure LawI (CD : Addr) (H : Hp) (p l a h wl : Addr) (fp fh : List Addr) (D E : DS) (n : Nat) : Prop where
  pool : PoolL H p l
  dk : DiskAt CD H a fp D
  he : HereAt H h fh E
  hw : H wl = some (.lst wordsV)
  dj : ∀ b ∈ fp, b ∉ fh
  n1 : p ∉ fp ∧ p ∉ fh
  n2 : l ∉ fp ∧ l ∉ fh
  n3 : wl ∉ fp ∧ wl ∉ fh
  n4 : wl ≠ p
  bn : bnd n D
theorem PoolL.at {H : Hp} {p l : Addr} (h : PoolL H p l) : (∃ xs, H p = some (.lst xs)) ∧ ∃ xs, H l = some (.lst xs) := by
  obtain ⟨ns, a, b, c, d, h1, h2, _⟩ := h
  exact ⟨⟨_, h1⟩, _, h2⟩
theorem PoolL.kp {H H' : Hp} {p l : Addr} (h : PoolL H p l) (k1 : ∀ o, H p = some o → H' p = some o) (k2 : ∀ o, H l = some o → H' l = some o) : PoolL H' p l := by
  obtain ⟨ns, a, b, c, d, h1, h2, h3⟩ := h
  exact ⟨ns, a, b, c, d, k1 _ h1, k2 _ h2, h3⟩
section
variable {CD : Addr} {H H' : Hp} {p l a h wl : Addr} {fp fh : List Addr} {D E : DS} {n : Nat}
theorem LawI.same (x : LawI CD H p l a h wl fp fh D E n) (s : Same H H') : LawI CD H' p l a h wl fp fh D E n := ⟨x.pool.keep s, x.dk.same s, x.he.same s, s _ _ x.hw, x.dj, x.n1, x.n2, x.n3, x.n4, x.bn⟩
theorem LawI.drawn (x : LawI CD H p l a h wl fp fh D E n) (pl : PoolL H' p l) (s : SameBut p H H') : LawI CD H' p l a h wl fp fh D E n := by
  obtain ⟨⟨xs, hp⟩, _⟩ := x.pool.at
  refine ⟨pl, x.dk.keep fun b o e m => s b o (fun z => ?_) e, x.he.keep fun b o e m => s b o (fun z => ?_) e, s _ _ x.n4 x.hw, x.dj, x.n1, x.n2, x.n3, x.n4, x.bn⟩
  · rcases m with m | ⟨ys, rfl⟩
    · exact x.n1.1 (by rw [← z]; exact m)
    · rw [z, hp] at e; cases e
  · rcases m with m | ⟨ys, rfl⟩
    · exact x.n1.2 (by rw [← z]; exact m)
    · rw [z, hp] at e; cases e
theorem LawI.disk {fp' : List Addr} {D' : DS} {n' : Nat} (x : LawI CD H p l a h wl fp fh D E n) (dk : DiskAt CD H' a fp' D') (fr : Fr fp fp' H H') (bn : bnd n' D') : LawI CD H' p l a h wl fp' fh D' E n' := by
  obtain ⟨⟨xs, hp⟩, ys, hl⟩ := x.pool.at
  have nw : ∀ b ∈ fp', ∀ o, H b = some o → b ∈ fp := fun b m o e => (fr.2 b m).elim id fun z => by rw [z] at e; cases e
  refine ⟨x.pool.kp (fun o e => fr.1 _ _ e x.n1.1) (fun o e => fr.1 _ _ e x.n2.1), dk, x.he.keep fun b o e m => fr.1 _ _ e ?_, fr.1 _ _ x.hw x.n3.1, fun b m z => ?_, ⟨fun m => x.n1.1 (nw _ m _ hp), x.n1.2⟩, ⟨fun m => x.n2.1 (nw _ m _ hl), x.n2.2⟩, ⟨fun m => x.n3.1 (nw _ m _ x.hw), x.n3.2⟩, x.n4, bn⟩
  · rcases m with m | ⟨ys, rfl⟩
    · exact fun z => x.dj b z m
    · exact x.dk.1.noTup _ _ e
  · cases e : H b with
    | none => exact x.he.has b z e
    | some o => exact x.dj b (nw b m o e) z
theorem LawI.here {fh' : List Addr} {E' : DS} (x : LawI CD H p l a h wl fp fh D E n) (he : HereAt H' h fh' E') (fr : Fr fh fh' H H') : LawI CD H' p l a h wl fp fh' D E' n := by
  obtain ⟨⟨xs, hp⟩, ys, hl⟩ := x.pool.at
  have nw : ∀ b ∈ fh', ∀ o, H b = some o → b ∈ fh := fun b m o e => (fr.2 b m).elim id fun z => by rw [z] at e; cases e
  refine ⟨x.pool.kp (fun o e => fr.1 _ _ e x.n1.2) (fun o e => fr.1 _ _ e x.n2.2), x.dk.keep fun b o e m => fr.1 _ _ e ?_, he, fr.1 _ _ x.hw x.n3.2, fun b m z => ?_, ⟨x.n1.1, fun m => x.n1.2 (nw _ m _ hp)⟩, ⟨x.n2.1, fun m => x.n2.2 (nw _ m _ hl)⟩, ⟨x.n3.1, fun m => x.n3.2 (nw _ m _ x.hw)⟩, x.n4, x.bn⟩
  · rcases m with m | ⟨ys, rfl⟩
    · exact x.dj b m
    · exact x.he.noTup _ _ e
  · cases e : H b with
    | none => exact x.dk.1.has b m e
    | some o => exact x.dj b m (nw b z o e)
theorem LawI.frz {pn : Addr} {o : HO} (x : LawI CD H p l a h wl fp fh D E n) (hn : pn ∉ fp ∧ pn ∉ fh) (np : pn ≠ p) (e : H pn = some (.dK (kvT D.names))) : LawI CD (upd H pn o) p l a h wl fp fh D E n := by
  obtain ⟨⟨xs, hp⟩, ys, hl⟩ := x.pool.at
  refine ⟨x.pool.put np fun z => (by rw [z, hl] at e; cases e), x.dk.keep fun b o e2 m => ?_, x.he.keep fun b o e2 m => ?_, ?_, x.dj, x.n1, x.n2, x.n3, x.n4, x.bn⟩
  · rw [upd_ne fun z => ?_]
    · exact e2
    · rcases m with m | ⟨zs, rfl⟩
      · exact hn.1 (by rw [← z]; exact m)
      · rw [z, e] at e2; cases e2
  · rw [upd_ne fun z => ?_]
    · exact e2
    · rcases m with m | ⟨zs, rfl⟩
      · exact hn.2 (by rw [← z]; exact m)
      · rw [z, e] at e2; cases e2
  · rw [upd_ne fun z => by rw [← z, x.hw] at e; cases e]
    exact x.hw
theorem LawI.nob (x : LawI CD H p l a h wl fp fh D E n) : hasA D.names (tl (Str.ofString "nobodyhere")) = false := by
  unfold hasA
  cases e : getA D.names (tl (Str.ofString "nobodyhere")) with
  | none => rfl
  | some i => exact absurd (x.bn.keys x.dk.2 _ (getA_mem e)) W3_no
end
def RowV (H : Hp) (v : V) : Prop := ∃ r row, v = .ref r ∧ H r = some (.tup (tupR row)) ∧ okRow row
theorem RowV.tup {H H' : Hp} {v : V} (x : RowV H v) (k : ∀ t xs, H t = some (.tup xs) → H' t = some (.tup xs)) : RowV H' v := by
  obtain ⟨r, row, e, h1, h2⟩ := x
  exact ⟨r, row, e, k _ _ h1, h2⟩
def WrongV (fp : List Addr) (D : DS) (H : Hp) (v : V) : Prop := ∃ (t : Addr) (c : IB) (li : Addr) (ts : List Addr) (trs : List Tear), v = .ref t ∧ H t = some (.tup [vIB c, .ref li]) ∧ H li = some (.lst (ts.map V.ref)) ∧ TeAt H ts trs ∧ trs.length < 64 ∧
  (∀ t ∈ trs, ∀ k ∈ nameT t, k < 1114112) ∧ li ∉ fp ∧ ¬ okTears D c trs
theorem WrongV.same {fp : List Addr} {D : DS} {H H' : Hp} {v : V} (x : WrongV fp D H v) (s : Same H H') : WrongV fp D H' v := by
  obtain ⟨t, c, li, ts, trs, e, h1, h2, h3, h4⟩ := x
  exact ⟨t, c, li, ts, trs, e, s _ _ h1, s _ _ h2, h3.keep fun u xs e => s _ _ e, h4⟩
def TearV (D : DS) (H : Hp) (v : V) : Prop := ∃ (t : Addr) (tr : Tear), v = .ref t ∧ H t = some (.tup (tupT tr)) ∧ (∀ k ∈ nameT tr, k < 1114112) ∧ ¬ okTears D (.int 0) [tr]
theorem TearV.same {D : DS} {H H' : Hp} {v : V} (x : TearV D H v) (s : Same H H') : TearV D H' v := by
  obtain ⟨t, tr, e, h1, h2⟩ := x
  exact ⟨t, tr, e, s _ _ h1, h2⟩
theorem noW1 {D : DS} {trs : List Tear} : ¬ okTears D (.int (-1)) trs := fun z => by
  have := z.1
  rw [inIB_int] at this
  simp at this
theorem noW2 {D : DS} {trs : List Tear} : ¬ okTears D (.int ((D.ch.length : Int) + 1)) trs := fun z => by
  have := z.1
  rw [inIB_int, Bool.and_eq_true, decide_eq_true_eq, decide_eq_true_eq] at this
  omega
theorem noW3 {D : DS} {b : Bool} {trs : List Tear} : ¬ okTears D (.bl b) trs := fun z => by cases z.1
theorem noW4 {D : DS} {x : Tx} {s : Int} {v : IB} (h : hasA D.names x = false) : ¬ okTears D (.int 0) [.three x s v] := fun z => by
  obtain ⟨⟨i, e, _⟩, _⟩ := z.2.2.2 _ List.mem_cons_self
  unfold hasA at h
  rw [e] at h
  cases h
theorem noW5 {D : DS} {a b : Int} : ¬ okTears D (.int 0) [.two a b] := fun z => by cases z.2.1 _ List.mem_cons_self
theorem noT {D : DS} {x : Tx} {s : Int} {v : IB} (h : ¬ okTear D (.three x s v)) : ¬ okTears D (.int 0) [.three x s v] := fun z => h (z.2.2.2 _ List.mem_cons_self)
theorem noT1 {D : DS} {x : Tx} {n : Nat} {v : IB} (g : getA D.names x = some n) : ¬ okTear D (.three x (((lateD D n).length : Int) + 1) v) := fun z => by
  obtain ⟨⟨i, e, h⟩, _⟩ := z
  rw [g] at e
  cases e
  rw [inIB_int, Bool.and_eq_true, decide_eq_true_eq, decide_eq_true_eq] at h
  omega
theorem noT2 {D : DS} {x : Tx} {v : IB} : ¬ okTear D (.three x (-1) v) := fun z => by
  obtain ⟨⟨i, e, h⟩, _⟩ := z
  rw [inIB_int] at h
  simp at h
theorem noT3 {D : DS} {x : Tx} : ¬ okTear D (.three x 0 (.bl true)) := fun z => by
  obtain ⟨_, b, e, h⟩ := z
  cases e
  exact h ⟨rfl, rfl⟩
theorem noT4 {D : DS} {x : Tx} {s i : Int} : ¬ okTear D (.three x s (.int i)) := fun z => by
  obtain ⟨_, b, e, h⟩ := z
  cases e
theorem noTT {D : DS} {x : Tx} {s s' : Int} {v v' : IB} : ¬ okTears D (.int 0) [.three x s v, .three x s' v'] := fun z => by
  have := z.2.2.1.1
  simp [nameT] at this
theorem strE (s : Str) : V.str s = sv (tl s) := congrArg V.str (TL.ext_tl rfl)
theorem resV_ne {r : Res} : (!decide (resV r = V.str (Str.ofString "done"))) = !decide (r = .done) := by cases r <;> decide +kernel
theorem w_neR {r s : Res} {H : Hp} {Q : VK} (k : Q (.bl (!decide (r = s))) H) : rNe (resV r) (resV s) H Q := by
  refine ⟨by cases r <;> cases s <;> rfl, ?_⟩
  rw [show decide (resV r = resV s) = decide (r = s) by cases r <;> cases s <;> decide +kernel]
  exact k
theorem w_neRd {r : Res} {H : Hp} {Q : VK} (k : Q (.bl (!decide (r = .done))) H) : rNe (resV r) (.str (Str.ofString "done")) H Q := w_neR (s := .done) k
theorem step_same {D : DS} {row : Row} (h : (step D row).2 ≠ .done) : (step D row).1 = D := by
  cases row with
  | make x =>
    simp only [step] at h ⊢
    split
    · rfl
    · rename_i z; rw [if_neg z] at h; exact absurd rfl h
  | names => exact absurd rfl h
  | write x t =>
    simp only [step] at h ⊢
    cases e : getA D.names x with
    | none => rfl
    | some i =>
      simp only [e] at h ⊢
      split
      · rfl
      · rename_i z; rw [if_neg z] at h; exact absurd rfl h
  | sync x =>
    simp only [step] at h ⊢
    cases e : getA D.names x with
    | none => rfl
    | some i => simp only [e] at h; exact absurd rfl h
  | move x y =>
    simp only [step] at h ⊢
    cases e : getA D.names x with
    | none => rfl
    | some i =>
      simp only [e] at h ⊢
      split
      · rfl
      · rename_i z; rw [if_neg z] at h; exact absurd rfl h
  | drop x =>
    simp only [step] at h ⊢
    cases e : getA D.names x with
    | none => rfl
    | some i => simp only [e] at h; exact absurd rfl h
  | cut x v =>
    simp only [step] at h ⊢
    cases e : getA D.names x with
    | none => rfl
    | some i =>
      simp only [e] at h ⊢
      cases em : inIB (readD D i).length v with
      | none => rfl
      | some m => simp only [em] at h; exact absurd rfl h
theorem noTupP {H : Hp} {p l : Addr} (h : PoolL H p l) : ∀ t xs, H t = some (.tup xs) → t ≠ p := fun t xs e z => by
  obtain ⟨⟨ys, hp⟩, _⟩ := h.at
  rw [z, hp] at e; cases e
def spLaw (K : PySem.W.Frag) : Sp := fun vs H Q _ => ∃ (a : Addr) (ns : List Int), vs = [.ref a] ∧ SqL K H a (ns.map V.int) ∧ ns.length ≤ 63 ∧ ∀ H', Q (.bl true) H'
section
variable {P : Program} {w : World} {K : PySem.W.Frag} {mg : Str → Option Value} {base : Heap}
set_option maxHeartbeats 40000000 in
theorem ok_law (M : Nms K mg) : FnOk P w K mg base CX0 6 M.a_law M.d_law ["script"] (spLaw K) := by
  refine M.F_law.ok sc_law (fun vs H Q E h => ?_) (fun cdv A outer s H vs Q E hr h => ?_)
  · obtain ⟨a, ns, rfl, _⟩ := h
    rfl
  · have hu := hu1 hr
    have clD := M.clD
    have nD_kept := M.nD_kept
    have nD_late := M.nD_late
    have nD_names := M.nD_names
    have nD_sure := M.nD_sure
    have nD_changes := M.nD_changes
    have nD_next := M.nD_next
    refine ⟨_, (pss_cons (ps_set (i := 1) sc_law.nd rfl (Or.inl rfl) (pe_call (ok__law_pool M) (hr.mono (by decide)) rfl M.g__law_pool M.k__law_pool M.b__law_pool .nil pass0 (pa_cons (pv 0) pa_nil)))
    (pss_cons (ps_set (i := 2) sc_law.nd rfl (Or.inl rfl) (pe_make0 M.mkD (ok_Disk___init__ M) (hr.mono (by decide)) rfl M.gD M.b_Disk___init__ .nil pass0))
    (pss_cons (ps_set (i := 3) sc_law.nd rfl (Or.inr rfl) (pe_lst (pa_cons pe_dnewK (pa_cons (pe_lst pa_nil) (pa_cons (pe_lst pa_nil) pa_nil)))))
    (pss_cons (ps_set (i := 4) sc_law.nd rfl (Or.inl rfl) (pe_lst (pa_cons pe_str (pa_cons pe_str (pa_cons pe_str pa_nil)))))
    (pss_cons (ps_for PassesOwn.never rfl (pi_range1 (by rfl) M.T.b_range (pa_cons (pe_op op_add pe_int (pe_call (ok__law_draw M) (hr.mono (by decide)) rfl M.g__law_draw M.k__law_draw M.b__law_draw .nil pass0 (pa_cons (pv 1) (pa_cons pe_int pa_nil)))) pa_nil)) (pg_name (i := 5) sc_law.nd rfl (Or.inl rfl)) (pss_cons (ps_set (i := 6) sc_law.nd rfl (Or.inl rfl) (pe_call (ok__law_pick M) (hr.mono (by decide)) rfl M.g__law_pick M.k__law_pick M.b__law_pick .nil pass0 (pa_cons (pv 1) (pa_cons (pe_op op_cat (pv 4) (pe_lst (pa_cons pe_str (pa_cons pe_str pa_nil)))) pa_nil))))
    (pss_cons (ps_set (i := 7) sc_law.nd rfl (Or.inl rfl) (pe_call (ok__law_pick M) (hr.mono (by decide)) rfl M.g__law_pick M.k__law_pick M.b__law_pick .nil pass0 (pa_cons (pv 1) (pa_cons (pe_op op_cat (pv 4) (pe_lst (pa_cons pe_str (pa_cons pe_str pa_nil)))) pa_nil))))
    (pss_cons (ps_set (i := 8) sc_law.nd rfl (Or.inl rfl) (pe_call (ok__law_pick M) (hr.mono (by decide)) rfl M.g__law_pick M.k__law_pick M.b__law_pick .nil pass0 (pa_cons (pv 1) (pa_cons (pe_lst (pa_cons pe_str (pa_cons pe_str (pa_cons pe_str (pa_cons pe_str (pa_cons pe_str pa_nil)))))) pa_nil))))
    (pss_cons (ps_set (i := 9) sc_law.nd rfl (Or.inl rfl) (pe_tup (pa_cons pe_str (pa_cons (pe_call (ok__law_pick M) (hr.mono (by decide)) rfl M.g__law_pick M.k__law_pick M.b__law_pick .nil pass0 (pa_cons (pv 1) (pa_cons (pv 4) pa_nil))) pa_nil))))
    (pss_cons (ps_set (i := 10) sc_law.nd rfl (Or.inl rfl) (pe_call (ok__law_pick M) (hr.mono (by decide)) rfl M.g__law_pick M.k__law_pick M.b__law_pick .nil pass0 (pa_cons (pv 1) (pa_cons (pe_lst (pa_cons (pv 9) (pa_cons (pe_tup (pa_cons pe_str (pa_cons (pv 7) pa_nil))) (pa_cons (pe_tup (pa_cons pe_str (pa_cons (pv 6) (pa_cons (pv 8) pa_nil)))) (pa_cons (pe_tup (pa_cons pe_str (pa_cons (pv 6) (pa_cons pe_str pa_nil)))) (pa_cons (pe_tup (pa_cons pe_str (pa_cons (pv 6) pa_nil))) (pa_cons (pe_tup (pa_cons pe_str pa_nil)) (pa_cons (pe_tup (pa_cons pe_str (pa_cons (pv 6) (pa_cons (pv 7) pa_nil)))) pa_nil)))))))) pa_nil))))
    (pss_cons (ps_set (i := 10) sc_law.nd rfl (Or.inl rfl) (pe_call (ok__law_pick M) (hr.mono (by decide)) rfl M.g__law_pick M.k__law_pick M.b__law_pick .nil pass0 (pa_cons (pv 1) (pa_cons (pe_lst (pa_cons (pv 10) (pa_cons (pv 10) (pa_cons (pv 10) (pa_cons (pe_tup (pa_cons pe_str (pa_cons (pv 6) pa_nil))) (pa_cons (pe_tup (pa_cons pe_str (pa_cons (pv 6) (pa_cons (pe_call (ok__law_pick M) (hr.mono (by decide)) rfl M.g__law_pick M.k__law_pick M.b__law_pick .nil pass0 (pa_cons (pv 1) (pa_cons (pe_lst (pa_cons pe_int (pa_cons pe_int (pa_cons pe_int (pa_cons pe_int (pa_cons (pe_un un_neg pe_int) (pa_cons pe_bl pa_nil))))))) pa_nil))) pa_nil)))) pa_nil)))))) pa_nil))))
    (pss_cons (ps_set (i := 11) sc_law.nd rfl (Or.inl rfl) (pe_call (ok__law_plain M) (hr.mono (by decide)) rfl M.g__law_plain M.k__law_plain M.b__law_plain .nil pass0 (pa_cons (pv 3) (pa_cons (pv 10) pa_nil))))
    (pss_cons (ps_set (i := 12) sc_law.nd rfl (Or.inl rfl) (pe_meth0 (pv 2) M.clD M.m_Disk_copy (ok_Disk_copy M) (hr.mono (by decide)) M.b_Disk_copy .nil pass0))
    (pss_one (ps_if (PW.pt (pw_or (pt_cmpR op_ne (pe_call (ok__law_do M) (hr.mono (by decide)) rfl M.g__law_do M.k__law_do M.b__law_do .nil pass0 (pa_cons (pv 2) (pa_cons (pv 10) pa_nil))) (pv 11) (nomark _)) (pw_or (pt_not (pt_val (pe_call (ok__law_stands M) (hr.mono (by decide)) rfl M.g__law_stands M.k__law_stands M.b__law_stands .nil pass0 (pa_cons (pv 2) (pa_cons (pv 3) pa_nil))))) (pw_or1 (PW.pt (pw_and (pt_cmpR op_ne (pv 11) pe_str (nomark _)) (pw_and1 (pt_cmpR op_isnot_bl (pe_call (ok_alike M) (hr.mono (by decide)) rfl M.g_alike M.k_alike M.b_alike .nil pass0 (pa_cons (pv 2) (pa_cons (pv 12) pa_nil))) pe_bl (nomark _))))))))) (pss_one (ps_ret pe_bl)) pss_nil)))))))))))
    (pss_cons (ps_set (i := 13) sc_law.nd rfl (Or.inr rfl) (pe_call (ok__law_names_after M) (hr.mono (by decide)) rfl M.g__law_names_after M.k__law_names_after M.b__law_names_after .nil pass0 (pa_cons (pe_ix (r := rIxL K) ix_list (pv 3) pe_int (fun _ _ => rfl)) (pa_cons (pe_ix (r := rIxL K) ix_list (pv 3) pe_int (fun _ _ => rfl)) pa_nil))))
    (pss_cons (ps_for PassesOwn.never rfl (pi_range1 (by rfl) M.T.b_range (pa_cons pe_int pa_nil)) (pg_name (i := 5) sc_law.nd rfl (Or.inl rfl)) (pss_cons (ps_set (i := 14) sc_law.nd rfl (Or.inl rfl) (pe_call (ok__law_draw M) (hr.mono (by decide)) rfl M.g__law_draw M.k__law_draw M.b__law_draw .nil pass0 (pa_cons (pv 1) (pa_cons (pe_op op_add (pe_callB (id := "len") (r := fun xs H Q => ∃ x n, xs = [x] ∧ LenV K x H n ∧ Q (V.int ((n : Nat) : Int)) H) call_len (by rfl) M.T.b_len (by decide +kernel) (pa_cons (pe_ix (r := rIxL K) ix_list (pv 3) pe_int (fun _ _ => rfl)) pa_nil)) pe_int) pa_nil))))
    (pss_cons (ps_set (i := 15) sc_law.nd rfl (Or.inl rfl) (pe_lst pa_nil))
    (pss_cons (ps_for PassesOwn.never rfl (pi_list (pe_callB (call_sortedD rfl) (by rfl) M.T.b_sorted (by decide +kernel) (pa_cons (pv 13) pa_nil))) (pg_name (i := 6) sc_law.nd rfl (Or.inl rfl)) (pss_cons (ps_set (i := 16) sc_law.nd rfl (Or.inl rfl) (pe_call (ok__law_draw M) (hr.mono (by decide)) rfl M.g__law_draw M.k__law_draw M.b__law_draw .nil pass0 (pa_cons (pv 1) (pa_cons (pe_op op_add (pe_callB (id := "len") (r := fun xs H Q => ∃ x n, xs = [x] ∧ LenV K x H n ∧ Q (V.int ((n : Nat) : Int)) H) call_len (by rfl) M.T.b_len (by decide +kernel) (pa_cons (pe_ix (r := rIxL K) ix_list (pe_ix (r := rIxL K) ix_list (pe_ix (r := rIxL K) ix_list (pv 3) pe_int (fun _ _ => rfl)) (pe_dget hu (pv 13) (pv 6) (fun _ _ => rfl)) (fun _ _ => rfl)) pe_int (fun _ _ => rfl)) pa_nil)) pe_int) pa_nil))))
    (pss_one (ps_if (pt_cmpR op_eq (pe_call (ok__law_draw M) (hr.mono (by decide)) rfl M.g__law_draw M.k__law_draw M.b__law_draw .nil pass0 (pa_cons (pv 1) (pa_cons pe_int pa_nil))) pe_int (nomark _)) (pss_one (ps_expr (pe_bm PySem.F.plainAttrs_list PySem.F.slot_list_append PySem.F.type_list_append mt_append (pv 15) (pa_cons (pe_tup (pa_cons (pv 6) (pa_cons (pv 16) (pa_cons (pe_and (pe_cmpR op_gt (pv 16) pe_int (nomark _)) (pe_one (pe_cmpR op_eq (pe_call (ok__law_draw M) (hr.mono (by decide)) rfl M.g__law_draw M.k__law_draw M.b__law_draw .nil pass0 (pa_cons (pv 1) (pa_cons pe_int pa_nil))) pe_int (nomark _)))) pa_nil)))) pa_nil)))) pss_nil))))
    (pss_cons (ps_set (i := 17) sc_law.nd rfl (Or.inl rfl) (pe_call (ok__law_cut M) (hr.mono (by decide)) rfl M.g__law_cut M.k__law_cut M.b__law_cut .nil pass0 (pa_cons (pv 2) (pa_cons (pv 14) (pa_cons (pe_callTy call_list_of (by rfl) M.T.b_list (by decide +kernel) (pa_cons (pv 15) pa_nil)) pa_nil)))))
    (pss_one (ps_if (PW.pt (pw_or (pt_val (pe_callB call_isi (by rfl) M.T.b_isinstance (by decide +kernel) (pa_cons (pv 17) (pa_cons (pe_bltn (v := .ty "str") (u := .type "str") (by rfl) M.T.b_str (by decide +kernel) rfl) pa_nil)))) (pw_or (pt_not (pt_val (pe_call (ok__law_found_right M) (hr.mono (by decide)) rfl M.g__law_found_right M.k__law_found_right M.b__law_found_right .nil pass0 (pa_cons (pv 17) (pa_cons (pv 3) (pa_cons (pv 14) (pa_cons (pv 15) pa_nil))))))) (pw_or1 (pt_not (pt_val (pe_call (ok__law_stands M) (hr.mono (by decide)) rfl M.g__law_stands M.k__law_stands M.b__law_stands .nil pass0 (pa_cons (pv 2) (pa_cons (pv 3) pa_nil))))))))) (pss_one (ps_ret pe_bl)) pss_nil)))))))
    (pss_cons (ps_setLc (i := 18) (own := [("name", 6)]) rfl sc_law.nd rfl rfl (sw_true rfl rfl rfl (by decide +kernel)) (pi_list (pe_callB (call_sortedD rfl) (by rfl) M.T.b_sorted (by decide +kernel) (pa_cons (pv 13) pa_nil))) (blkOk_by (N := ["script", "pool", "disk", "here", "words", "k", "name", "other", "text", "made", "row", "due", "kept", "names", "changes", "tears", "signs", "found", "every", "wrong", "size"]) (sc := defScope s_law) (own := [("name", 6)]) (by decide +kernel)) (fun _ _ _ _ _ => (pg_name (i := 6) sc_law.nd rfl (Or.inl rfl))) (fun _ _ _ _ _ => pts_nil) (fun _ _ _ _ _ => (pe_tup (pa_cons (pv 6) (pa_cons (pe_callB (id := "len") (r := fun xs H Q => ∃ x n, xs = [x] ∧ LenV K x H n ∧ Q (V.int ((n : Nat) : Int)) H) call_len (by rfl) M.T.b_len (by decide +kernel) (pa_cons (pe_ix (r := rIxL K) ix_list (pe_ix (r := rIxL K) ix_list (pe_ix (r := rIxL K) ix_list (pv 3) pe_int (fun _ _ => rfl)) (pe_dget hu (pv 13) (pv 6) (fun _ _ => rfl)) (fun _ _ => rfl)) pe_int (fun _ _ => rfl)) pa_nil)) (pa_cons pe_bl pa_nil))))))
    (pss_cons (ps_if (PW.pt (pw_or (pt_not (pt_val (pe_call (ok__law_found_right M) (hr.mono (by decide)) rfl M.g__law_found_right M.k__law_found_right M.b__law_found_right .nil pass0 (pa_cons (pe_call (ok_nothing_lost M) (hr.mono (by decide)) rfl M.g_nothing_lost M.k_nothing_lost M.b_nothing_lost .nil pass0 (pa_cons (pv 2) pa_nil)) (pa_cons (pv 3) (pa_cons (pe_callB (id := "len") (r := fun xs H Q => ∃ x n, xs = [x] ∧ LenV K x H n ∧ Q (V.int ((n : Nat) : Int)) H) call_len (by rfl) M.T.b_len (by decide +kernel) (pa_cons (pe_ix (r := rIxL K) ix_list (pv 3) pe_int (fun _ _ => rfl)) pa_nil)) (pa_cons (pv 18) pa_nil))))))) (pw_or1 (pt_not (pt_val (pe_call (ok__law_found_right M) (hr.mono (by decide)) rfl M.g__law_found_right M.k__law_found_right M.b__law_found_right .nil pass0 (pa_cons (pe_call (ok_all_lost M) (hr.mono (by decide)) rfl M.g_all_lost M.k_all_lost M.b_all_lost .nil pass0 (pa_cons (pv 2) pa_nil)) (pa_cons (pv 3) (pa_cons pe_int (pa_cons (pe_lst pa_nil) pa_nil)))))))))) (pss_one (ps_ret pe_bl)) pss_nil)
    (pss_cons (ps_for PassesOwn.never rfl (pi_list (pe_lst (pa_cons (pe_tup (pa_cons (pe_un un_neg pe_int) (pa_cons (pe_lst pa_nil) pa_nil))) (pa_cons (pe_tup (pa_cons (pe_op op_add (pe_callB (id := "len") (r := fun xs H Q => ∃ x n, xs = [x] ∧ LenV K x H n ∧ Q (V.int ((n : Nat) : Int)) H) call_len (by rfl) M.T.b_len (by decide +kernel) (pa_cons (pe_ix (r := rIxL K) ix_list (pv 3) pe_int (fun _ _ => rfl)) pa_nil)) pe_int) (pa_cons (pe_lst pa_nil) pa_nil))) (pa_cons (pe_tup (pa_cons pe_bl (pa_cons (pe_lst pa_nil) pa_nil))) (pa_cons (pe_tup (pa_cons pe_int (pa_cons (pe_lst (pa_cons (pe_tup (pa_cons pe_str (pa_cons pe_int (pa_cons pe_bl pa_nil)))) pa_nil)) pa_nil))) (pa_cons (pe_tup (pa_cons pe_int (pa_cons (pe_lst (pa_cons (pe_tup (pa_cons pe_int (pa_cons pe_int pa_nil))) pa_nil)) pa_nil))) pa_nil))))))) (pg_name (i := 19) sc_law.nd rfl (Or.inl rfl)) (pss_one (ps_if (pt_cmpR op_ne (pe_call (ok__law_cut M) (hr.mono (by decide)) rfl M.g__law_cut M.k__law_cut M.b__law_cut .nil pass0 (pa_cons (pv 2) (pa_cons (pe_ix (r := rIxT K) ix_tup (pv 19) pe_int (fun _ _ => rfl)) (pa_cons (pe_ix (r := rIxT K) ix_tup (pv 19) pe_int (fun _ _ => rfl)) pa_nil)))) pe_str (nomark _)) (pss_one (ps_ret pe_bl)) pss_nil)))
    (pss_cons (ps_lock (ps_for PassesOwn.never rfl (pi_keys (pv 13)) (pg_name (i := 6) sc_law.nd rfl (Or.inl rfl)) (pss_cons (ps_set (i := 20) sc_law.nd rfl (Or.inl rfl) (pe_callB (id := "len") (r := fun xs H Q => ∃ x n, xs = [x] ∧ LenV K x H n ∧ Q (V.int ((n : Nat) : Int)) H) call_len (by rfl) M.T.b_len (by decide +kernel) (pa_cons (pe_ix (r := rIxL K) ix_list (pe_ix (r := rIxL K) ix_list (pe_ix (r := rIxL K) ix_list (pv 3) pe_int (fun _ _ => rfl)) (pe_dget hu (pv 13) (pv 6) (fun _ _ => rfl)) (fun _ _ => rfl)) pe_int (fun _ _ => rfl)) pa_nil)))
    (pss_one (ps_for PassesOwn.never rfl (pi_list (pe_lst (pa_cons (pe_tup (pa_cons (pv 6) (pa_cons (pe_op op_add (pv 20) pe_int) (pa_cons pe_bl pa_nil)))) (pa_cons (pe_tup (pa_cons (pv 6) (pa_cons (pe_un un_neg pe_int) (pa_cons pe_bl pa_nil)))) (pa_cons (pe_tup (pa_cons (pv 6) (pa_cons pe_int (pa_cons pe_bl pa_nil)))) (pa_cons (pe_tup (pa_cons (pv 6) (pa_cons pe_int (pa_cons pe_int pa_nil)))) pa_nil)))))) (pg_name (i := 19) sc_law.nd rfl (Or.inl rfl)) (pss_one (ps_if (PW.pt (pw_or (pt_cmpR op_ne (pe_call (ok__law_cut M) (hr.mono (by decide)) rfl M.g__law_cut M.k__law_cut M.b__law_cut .nil pass0 (pa_cons (pv 2) (pa_cons pe_int (pa_cons (pe_lst (pa_cons (pv 19) pa_nil)) pa_nil)))) pe_str (nomark _)) (pw_or1 (pt_cmpR op_ne (pe_call (ok__law_cut M) (hr.mono (by decide)) rfl M.g__law_cut M.k__law_cut M.b__law_cut .nil pass0 (pa_cons (pv 2) (pa_cons pe_int (pa_cons (pe_lst (pa_cons (pe_tup (pa_cons (pv 6) (pa_cons pe_int (pa_cons pe_bl pa_nil)))) (pa_cons (pe_tup (pa_cons (pv 6) (pa_cons pe_int (pa_cons pe_bl pa_nil)))) pa_nil))) pa_nil)))) pe_str (nomark _))))) (pss_one (ps_ret pe_bl)) pss_nil)))))))
    (pss_one (ps_ret pe_bl))))))))))))), ?_⟩
    try dsimp only [cxOf, Cx.nox]
    obtain ⟨sa, ns, rfl, hS, hn, q⟩ := h
    refine w_start (σ' := [some (.ref sa), none, none, none, none, none, none, none, none, none, none, none, none, none, none, none, none, none, none, none, none]) rfl ?_
    (repeat array_get_dec)
    refine ⟨sa, ns, rfl, hS, hn, fun H1 p l s1 _ _ pl => ?_⟩
    (repeat array_get_dec)
    intro a da ha hda hne
    refine ⟨a, da, rfl, upd_same, fun H2 fp dk fr => ⟨rfl, ?_⟩⟩
    obtain ⟨pl2, np1, np2⟩ : PoolL H2 p l ∧ p ∉ fp ∧ l ∉ fp := by
      have pl' := (pl.new (o := .own a) hda).new (o := .ins M.CD da []) (q := a) (by rw [upd_ne (Ne.symm hne)]; exact ha)
      obtain ⟨⟨xs, hp⟩, ys, hl⟩ := pl'.at
      have m1 : p ∉ [a] := by
        simp
        intro z
        rw [z, upd_same] at hp
        cases hp
      have m2 : l ∉ [a] := by
        simp
        intro z
        rw [z, upd_same] at hl
        cases hl
      exact ⟨pl'.kp (fun o e => fr.1 _ _ e m1) (fun o e => fr.1 _ _ e m2), fun m => (fr.2 p m).elim m1 fun z => (by rw [hp] at z; cases z), fun m => (fr.2 l m).elim m2 fun z => (by rw [hl] at z; cases z)⟩
    clear fr pl ha hda
    (repeat array_get_dec)
    intro nd hnd
    (repeat array_get_dec)
    refine ⟨by show 0 ≤ sizeLine; decide, fun cl hcl => ?_⟩
    (repeat array_get_dec)
    refine ⟨by show 0 ≤ sizeLine; decide, fun fl hfl => ?_⟩
    (repeat array_get_dec)
    refine ⟨by show 3 ≤ sizeLine; decide, fun h hh => ?_⟩
    (repeat array_get_dec)
    refine ⟨by show 3 ≤ sizeLine; decide, fun wl hwl => ?_⟩
    have keep : ∀ b o, H2 b = some o → upd (upd (upd (upd (upd H2 nd (.dK [])) cl (.lst [])) fl (.lst [])) h (.lst [.ref nd, .ref cl, .ref fl])) wl (.lst wordsV) b = some o := fun b o e => upd_atN hwl (upd_atN hh (upd_atN hfl (upd_atN hcl (upd_atN hnd e))))
    have i0 : LawI M.CD (upd (upd (upd (upd (upd H2 nd (.dK [])) cl (.lst [])) fl (.lst [])) h (.lst [.ref nd, .ref cl, .ref fl])) wl (.lst wordsV)) p l a h wl fp (hereF h nd cl fl []) noneD noneD 0 := by
      have fN : H2 nd = none := hnd
      have fC : H2 cl = none := (hu2 hcl).2
      have fF : H2 fl = none := (hu2 (hu2 hfl).2).2
      have fH : H2 h = none := (hu2 (hu2 (hu2 hh).2).2).2
      have fW : H2 wl = none := (hu2 (hu2 (hu2 (hu2 hwl).2).2).2).2
      obtain ⟨⟨xs, hp⟩, ys, hl⟩ := pl2.at
      refine ⟨pl2.keep keep, dk.same keep, ⟨nd, cl, fl, [], [], rfl, ⟨?_, upd_atN hwl upd_same, upd_atN hwl (upd_atN hh (upd_atN hfl (upd_atN hcl upd_same))), upd_atN hwl (upd_atN hh (upd_atN hfl upd_same)), trivial, upd_atN hwl (upd_atN hh upd_same), rfl, fun i f e => by simp at e⟩⟩, upd_same, fun b m z => ?_, ⟨np1, ?_⟩, ⟨np2, ?_⟩, ⟨fun m => dk.1.has wl m fW, ?_⟩, fun z => (by rw [z, hp] at fW; cases fW), bnd_none⟩
      · simp only [List.nodup_cons, List.mem_cons, List.not_mem_nil, or_false, not_or]
        exact ⟨⟨(hu2 (hu2 hh).2).1, (hu2 hh).1⟩, Ne.symm (hu2 hfl).1, not_false, List.nodup_nil⟩
      · have := dk.1.has b m
        simp only [hereF, List.mem_cons, List.not_mem_nil, or_false] at z
        rcases z with rfl | rfl | rfl | rfl
        · exact this fH
        · exact this fN
        · exact this fC
        · exact this fF
      · intro z
        simp only [hereF, List.mem_cons, List.not_mem_nil, or_false] at z
        rcases z with rfl | rfl | rfl | rfl <;> simp_all
      · intro z
        simp only [hereF, List.mem_cons, List.not_mem_nil, or_false] at z
        rcases z with rfl | rfl | rfl | rfl <;> simp_all
      · simp only [hereF, List.mem_cons, List.not_mem_nil, or_false, not_or]
        have q1 := hu2 hwl
        have q2 := hu2 q1.2
        have q3 := hu2 q2.2
        have q4 := hu2 q3.2
        exact ⟨q1.1, q4.1, q3.1, q2.1⟩
    generalize upd (upd (upd (upd (upd H2 nd (.dK [])) cl (.lst [])) fl (.lst [])) h (.lst [.ref nd, .ref cl, .ref fl])) wl (.lst wordsV) = H3 at *
    clear keep hwl hh hfl hcl hnd dk pl2 np1 np2
    (repeat array_get_dec)
    refine ⟨p, l, 9, rfl, i0.pool, by omega, by omega, fun v H4 v0 v9 pl4 sb4 => ?_⟩
    obtain ⟨nv, rfl⟩ := Int.eq_ofNat_of_zero_le v0
    have i1 := i0.drawn pl4 sb4
    clear i0 pl4 sb4
    (repeat array_get_dec)
    have ev : (2 + (nv : Int)).toNat = 2 + nv := by omega
    rw [ev]
    refine for_range (lo := 0) (n := 2 + nv) (fun i σ H' => ∃ v5 v6 v7 v8 v9 v10 v11 v12 fp fh D, σ = [some (.ref sa), some (.ref p), some (.ref a), some (.ref h), some (.ref wl), v5, v6, v7, v8, v9, v10, v11, v12, none, none, none, none, none, none, none, none] ∧ LawI M.CD H' p l a h wl fp fh D D i) ⟨_, _, _, _, _, _, _, _, _, _, _, rfl, i1⟩ ?_ ?_
    · rintro i σ H5 hi ⟨v5, v6, v7, v8, v9, v10, v11, v12, fp, fh, D, rfl, I⟩
      have i11 : i ≤ 11 := by omega
      have hwl := I.hw
      have wz1 : wordsV.length + [V.str (Str.ofString "one"), V.str (Str.ofString "nobodyhere")].length ≤ sizeLine := by rw [sizeLine_eq]; decide
      have wz2 : wordsV.length + [V.str (Str.ofString "one"), V.str (Str.ofString "")].length ≤ sizeLine := by rw [sizeLine_eq]; decide
      (repeat array_get_dec)
      refine ⟨by show 2 ≤ sizeLine; decide, fun t1 ht1 => ?_⟩
      (repeat array_get_dec)
      intro t2 ht2
      have I2 := (I.same (same_upd (Same.refl _) ht1)).same (same_upd (o := .lst (wordsV ++ [V.str (Str.ofString "one"), V.str (Str.ofString "nobodyhere")])) (Same.refl _) ht2)
      (repeat array_get_dec)
      refine ⟨p, t2, l, _, rfl, I2.pool, upd_same, (I.same (same_upd (Same.refl _) ht1)).pool.ne ht2, by decide, by show 5 ≤ sizeLine; decide, fun v H6 mv pl6 sb6 => ?_⟩
      obtain ⟨nm, rfl⟩ : ∃ x, v = sv x := by
        simp only [List.mem_append, List.mem_cons, List.not_mem_nil, or_false] at mv
        rcases mv with (rfl | rfl | rfl) | rfl | rfl <;> exact ⟨_, strE _⟩
      have I3 := I2.drawn pl6 sb6
      clear I I2 pl6 sb6 ht1 ht2 mv
      have hwl := I3.hw
      (repeat array_get_dec)
      refine ⟨by show 2 ≤ sizeLine; decide, fun t1 ht1 => ?_⟩
      (repeat array_get_dec)
      intro t2 ht2
      have I4 := (I3.same (same_upd (Same.refl _) ht1)).same (same_upd (o := .lst (wordsV ++ [V.str (Str.ofString "one"), V.str (Str.ofString "")])) (Same.refl _) ht2)
      (repeat array_get_dec)
      refine ⟨p, t2, l, _, rfl, I4.pool, upd_same, (I3.same (same_upd (Same.refl _) ht1)).pool.ne ht2, by decide, by show 5 ≤ sizeLine; decide, fun v H7 mv pl7 sb7 => ?_⟩
      obtain ⟨ot, rfl, hot⟩ : ∃ x, v = sv x ∧ (x = [] ∨ x ∈ W3) := by
        simp only [List.mem_append, List.mem_cons, List.not_mem_nil, or_false] at mv
        rcases mv with (rfl | rfl | rfl) | rfl | rfl
        · exact ⟨_, strE _, .inr (by simp [W3])⟩
        · exact ⟨_, strE _, .inr (by simp [W3])⟩
        · exact ⟨_, strE _, .inr (by simp [W3])⟩
        · exact ⟨_, strE _, .inr (by simp [W3])⟩
        · exact ⟨_, strE _, .inl rfl⟩
      have I5 := I4.drawn pl7 sb7
      clear I3 I4 pl7 sb7 ht1 ht2 mv
      (repeat array_get_dec)
      refine ⟨by show 5 ≤ sizeLine; decide, fun t2 ht2 => ?_⟩
      have I6 := I5.same (same_upd (o := .lst [V.str (Str.ofString "abc"), V.str (Str.ofString "de"), V.str (Str.ofString ""), V.str (Str.ofString "f"), V.str (Str.ofString "x?y")]) (Same.refl _) ht2)
      (repeat array_get_dec)
      refine ⟨p, t2, l, _, rfl, I6.pool, upd_same, I5.pool.ne ht2, by decide, by show 5 ≤ sizeLine; decide, fun v H8 mv pl8 sb8 => ?_⟩
      obtain ⟨tx, rfl, htx⟩ : ∃ x, v = sv x ∧ x.length ≤ 3 := by
        simp only [List.mem_cons, List.not_mem_nil, or_false] at mv
        rcases mv with rfl | rfl | rfl | rfl | rfl <;> exact ⟨_, strE _, by decide +kernel⟩
      have I7 := I6.drawn pl8 sb8
      clear I5 I6 pl8 sb8 ht2 mv
      have hwl := I7.hw
      (repeat array_get_dec)
      refine ⟨p, wl, l, _, rfl, I7.pool, hwl, I7.n4, by decide, by show 3 ≤ sizeLine; decide, fun v H9 mv pl9 sb9 => ?_⟩
      obtain ⟨mk, rfl, hmk⟩ : ∃ x, v = sv x ∧ x ∈ W3 := by
        simp only [List.mem_cons, List.not_mem_nil, or_false] at mv
        rcases mv with rfl | rfl | rfl <;> exact ⟨_, strE _, by simp [W3]⟩
      have I8 := I7.drawn pl9 sb9
      clear I7 pl9 sb9 mv hwl
      (repeat array_get_dec)
      refine ⟨by show 2 ≤ sizeLine; decide, fun m1 hm1 => ?_⟩
      (repeat array_get_dec)
      refine ⟨by show 2 ≤ sizeLine; decide, fun m2 hm2 => ?_⟩
      (repeat array_get_dec)
      refine ⟨by show 3 ≤ sizeLine; decide, fun m3 hm3 => ?_⟩
      (repeat array_get_dec)
      refine ⟨by show 3 ≤ sizeLine; decide, fun m4 hm4 => ?_⟩
      (repeat array_get_dec)
      refine ⟨by show 2 ≤ sizeLine; decide, fun m5 hm5 => ?_⟩
      (repeat array_get_dec)
      refine ⟨by show 1 ≤ sizeLine; decide, fun m6 hm6 => ?_⟩
      (repeat array_get_dec)
      refine ⟨by show 3 ≤ sizeLine; decide, fun m7 hm7 => ?_⟩
      (repeat array_get_dec)
      have rows : ∀ v ∈ [V.ref m1, .ref m2, .ref m3, .ref m4, .ref m5, .ref m6, .ref m7], RowV (upd (upd (upd (upd (upd (upd (upd H9 m1 (.tup (tupR (.make mk)))) m2 (.tup (tupR (.make ot)))) m3 (.tup (tupR (.write nm tx)))) m4 (.tup [V.str (Str.ofString "write"), sv nm, V.str (Str.ofString "ghi")])) m5 (.tup (tupR (.sync nm)))) m6 (.tup (tupR .names))) m7 (.tup (tupR (.move nm ot)))) v := by
        intro v mv
        simp only [List.mem_cons, List.not_mem_nil, or_false] at mv
        rcases mv with rfl | rfl | rfl | rfl | rfl | rfl | rfl
        · exact ⟨_, .make mk, rfl, upd_atN hm7 (upd_atN hm6 (upd_atN hm5 (upd_atN hm4 (upd_atN hm3 (upd_atN hm2 upd_same))))), .inr hmk⟩
        · exact ⟨_, .make ot, rfl, upd_atN hm7 (upd_atN hm6 (upd_atN hm5 (upd_atN hm4 (upd_atN hm3 upd_same)))), hot⟩
        · exact ⟨_, .write nm tx, rfl, upd_atN hm7 (upd_atN hm6 (upd_atN hm5 (upd_atN hm4 upd_same))), htx⟩
        · exact ⟨_, .write nm (tl (Str.ofString "ghi")), rfl, upd_atN hm7 (upd_atN hm6 (upd_atN hm5 upd_same)), by show (tl (Str.ofString "ghi")).length ≤ 3; decide +kernel⟩
        · exact ⟨_, .sync nm, rfl, upd_atN hm7 (upd_atN hm6 upd_same), trivial⟩
        · exact ⟨_, .names, rfl, upd_atN hm7 upd_same, trivial⟩
        · exact ⟨_, .move nm ot, rfl, upd_same, hot⟩
      have I9 := I8.same (H' := upd (upd (upd (upd (upd (upd (upd H9 m1 (.tup (tupR (.make mk)))) m2 (.tup (tupR (.make ot)))) m3 (.tup (tupR (.write nm tx)))) m4 (.tup [V.str (Str.ofString "write"), sv nm, V.str (Str.ofString "ghi")])) m5 (.tup (tupR (.sync nm)))) m6 (.tup (tupR .names))) m7 (.tup (tupR (.move nm ot)))) fun b o e => upd_atN hm7 (upd_atN hm6 (upd_atN hm5 (upd_atN hm4 (upd_atN hm3 (upd_atN hm2 (upd_atN hm1 e))))))
      unfold tupR at rows I9
      generalize upd (upd _ m6 _) m7 _ = G at *
      clear I8 hm1 hm2 hm3 hm4 hm5 hm6 hm7
      refine ⟨by show 7 ≤ sizeLine; decide, fun r1 hr1 => ?_⟩
      have I10 := I9.same (same_upd (o := .lst [V.ref m1, .ref m2, .ref m3, .ref m4, .ref m5, .ref m6, .ref m7]) (Same.refl _) hr1)
      (repeat array_get_dec)
      refine ⟨p, r1, l, _, rfl, I10.pool, upd_same, I9.pool.ne hr1, by simp, by show 7 ≤ sizeLine; decide, fun v H10 mv pl10 sb10 => ?_⟩
      have rv := (rows v mv).tup fun t xs e => sb10 t _ (noTupP I10.pool _ _ (upd_atN hr1 e)) (upd_atN hr1 e)
      have I11 := I10.drawn pl10 sb10
      clear I9 I10 pl10 sb10 rows mv hr1 hmk hot htx
      (repeat array_get_dec)
      refine ⟨by show 2 ≤ sizeLine; decide, fun m1 hm1 => ?_⟩
      have I12 := I11.same (same_upd (o := .tup (tupR (.drop nm))) (Same.refl _) hm1)
      have rv1 := rv.tup (H' := upd H10 m1 (.tup (tupR (.drop nm)))) fun t xs e => upd_atN hm1 e
      have rd : RowV (upd H10 m1 (.tup (tupR (.drop nm)))) (.ref m1) := ⟨m1, .drop nm, rfl, upd_same, trivial⟩
      unfold tupR at I12 rv1 rd
      generalize upd H10 m1 _ = H11 at *
      clear I11 rv hm1
      (repeat array_get_dec)
      refine ⟨by show 6 ≤ sizeLine; decide, fun r2 hr2 => ?_⟩
      have I13 := I12.same (same_upd (o := .lst [.int 0, .int 1, .int 2, .int 9, .int (-1), .bl true]) (Same.refl _) hr2)
      have rv2 := rv1.tup (H' := upd H11 r2 (.lst [.int 0, .int 1, .int 2, .int 9, .int (-1), .bl true])) fun t xs e => upd_atN hr2 e
      have rd2 := rd.tup (H' := upd H11 r2 (.lst [.int 0, .int 1, .int 2, .int 9, .int (-1), .bl true])) fun t xs e => upd_atN hr2 e
      (repeat array_get_dec)
      refine ⟨p, r2, l, _, rfl, I13.pool, upd_same, I12.pool.ne hr2, by simp, by show 6 ≤ sizeLine; decide, fun v2 H12 mv pl12 sb12 => ?_⟩
      have rv3 := rv2.tup (H' := H12) fun t xs e => sb12 t _ (noTupP I13.pool _ _ e) e
      have rd3 := rd2.tup (H' := H12) fun t xs e => sb12 t _ (noTupP I13.pool _ _ e) e
      have I14 := I13.drawn pl12 sb12
      obtain ⟨ib, rfl⟩ : ∃ b, v2 = vIB b := by
        simp only [List.mem_cons, List.not_mem_nil, or_false] at mv
        rcases mv with rfl | rfl | rfl | rfl | rfl | rfl
        · exact ⟨.int 0, rfl⟩
        · exact ⟨.int 1, rfl⟩
        · exact ⟨.int 2, rfl⟩
        · exact ⟨.int 9, rfl⟩
        · exact ⟨.int (-1), rfl⟩
        · exact ⟨.bl true, rfl⟩
      clear I12 I13 rv1 rd rv2 rd2 pl12 sb12 mv hr2
      (repeat array_get_dec)
      refine ⟨by show 3 ≤ sizeLine; decide, fun m2 hm2 => ?_⟩
      have I15 := I14.same (same_upd (o := .tup (tupR (.cut nm ib))) (Same.refl _) hm2)
      have rv4 := rv3.tup (H' := upd H12 m2 (.tup (tupR (.cut nm ib)))) fun t xs e => upd_atN hm2 e
      have rd4 := rd3.tup (H' := upd H12 m2 (.tup (tupR (.cut nm ib)))) fun t xs e => upd_atN hm2 e
      have rc4 : RowV (upd H12 m2 (.tup (tupR (.cut nm ib)))) (.ref m2) := ⟨m2, .cut nm ib, rfl, upd_same, trivial⟩
      unfold tupR at I15 rv4 rd4 rc4
      generalize upd H12 m2 _ = H13 at *
      clear I14 rv3 rd3 hm2
      (repeat array_get_dec)
      refine ⟨by show 5 ≤ sizeLine; decide, fun r3 hr3 => ?_⟩
      have I16 := I15.same (same_upd (o := .lst [v, v, v, .ref m1, .ref m2]) (Same.refl _) hr3)
      (repeat array_get_dec)
      refine ⟨p, r3, l, _, rfl, I16.pool, upd_same, I15.pool.ne hr3, by simp, by show 5 ≤ sizeLine; decide, fun v3 H14 mv pl14 sb14 => ?_⟩
      obtain ⟨r, row, rfl, hrow, okr⟩ : RowV H14 v3 := by
        have : RowV H13 v3 := by
          simp only [List.mem_cons, List.not_mem_nil, or_false] at mv
          rcases mv with rfl | rfl | rfl | rfl | rfl
          · exact rv4
          · exact rv4
          · exact rv4
          · exact rd4
          · exact rc4
        exact this.tup fun t xs e => sb14 t _ (noTupP I16.pool _ _ (upd_atN hr3 e)) (upd_atN hr3 e)
      have I17 := I16.drawn pl14 sb14
      clear I15 I16 rv4 rd4 rc4 pl14 sb14 mv hr3
      (repeat array_get_dec)
      have wfd := I17.dk.2
      have bd1 := I17.bn.bd wfd (by omega)
      have bn2 := bnd_step I17.bn wfd row okr
      have bd2 := bn2.bd (wf_step wfd row) (by omega)
      have nx : D.next ≤ 1000 := by have := I17.bn.nx; omega
      refine ⟨h, r, fh, D, row, rfl, I17.he, wfd, bd1, nx, hrow, bd2, fun H15 fh' he15 fr15 => ?_⟩
      have I18 := I17.here he15 fr15
      have hrow15 := fr15.1 _ _ hrow (I17.he.noTup _ _ hrow)
      clear I17 fr15 hrow he15
      obtain ⟨⟨k0, l0, n0, sa0, c0, ts0, efp, ⟨nd0, ⟨dx0, hi⟩, _⟩⟩, _⟩ := id I18.dk
      (repeat array_get_dec)
      refine ⟨a, fp, D, rfl, I18.dk, fun b H16 fb dkb s16 frb => ?_⟩
      have I19 := I18.same s16
      have hrow16 := s16 _ _ hrow15
      have frb16 : ∀ c ∈ fb, c ∉ fp := fun c m z => I18.dk.1.has c z (frb c m)
      clear I18 s16 hrow15 frb hi
      (repeat array_get_dec)
      refine ⟨a, r, fp, D, row, rfl, I19.dk, hrow16, bd2, fun H17 fp' dk17 fr17 => ?_⟩
      have I20 := I19.disk dk17 fr17 bn2
      have dkb17 : DiskAt M.CD H17 b fb D := dkb.keep fun c o e m => fr17.1 _ _ e (m.elim (frb16 c) fun ⟨xs, z⟩ => I19.dk.1.noTup c xs (by rw [← z]; exact e))
      clear I19 dkb dk17 fr17 frb16 hrow16
      (repeat array_get_dec)
      refine w_neR ?_
      rw [decide_eq_true rfl]
      (repeat array_get_dec)
      refine ⟨a, h, fp', fh', (step D row).1, rfl, I20.dk, I20.he, by have := bn2.nx; omega, I20.nob, fun H18 s18 => ?_⟩
      have I21 := I20.same s18
      have dkb18 := dkb17.same s18
      clear I20 dkb17 s18
      (repeat array_get_dec)
      refine w_neRd ?_
      by_cases hd : (step D row).2 = .done
      · rw [decide_eq_true hd]
        (repeat array_get_dec)
        exact ⟨_, _, _, _, _, _, _, _, _, _, _, rfl, I21⟩
      · rw [decide_eq_false hd]
        (repeat array_get_dec)
        refine ⟨a, b, fp', fb, D, rfl, by have := I21.dk; rw [step_same hd] at this; exact this, dkb18, fun H19 s19 => ?_⟩
        (repeat array_get_dec)
        exact ⟨_, _, _, _, _, _, _, _, _, _, _, rfl, I21.same s19⟩
    · rintro σ H5 ⟨v5, v6, v7, v8, v9, v10, v11, v12, fp, fh, D, rfl, I⟩
      have wfd := I.dk.2
      have n10 : 2 + nv ≤ 10 := by omega
      have bd1 := I.bn.bd wfd (by omega)
      have bdF := fun (k : Nat) (trs : List Tear) => bd_found (k := k) I.bn wfd (by omega) trs
      have nx : D.next ≤ 1000 := by have := I.bn.nx; omega
      have nob := I.nob
      obtain ⟨nd1, cl1, fl1, ts1, fs1, efh, hp⟩ := id I.he
      have hh := hp.hh
      have a0 : atI [V.ref nd1, V.ref cl1, V.ref fl1] (0 : Int) = some (.ref nd1) := atI_nat (j := 0) rfl
      have a1 : atI [V.ref nd1, V.ref cl1, V.ref fl1] (1 : Int) = some (.ref cl1) := atI_nat (j := 1) rfl
      have a2 : atI [V.ref nd1, V.ref cl1, V.ref fl1] (2 : Int) = some (.ref fl1) := atI_nat (j := 2) rfl
      (repeat array_get_dec)
      refine ⟨nd1, cl1, ts1, D.sure, D.ch, rfl, hp.hn, hp.hc, hp.tp, wfd.ok, by have := bd1.sure; have := bd1.ch; omega, wfd.nd, fun pn H6 s6 pnH h6 => ?_⟩
      rw [← wfd.nm] at h6
      have I6 := I.same s6
      have pnp : pn ≠ p := I.pool.ne pnH
      have pnfp : pn ∉ fp ∧ pn ∉ fh := ⟨fun m => I.dk.1.has pn m pnH, fun m => I.he.has pn m pnH⟩
      have J : ∀ H', PoolL H' p l → SameBut p H6 H' → LawI M.CD H' p l a h wl fp fh D D (2 + nv) ∧ H' pn = some (.dK (kvT D.names)) := fun H' pl sb => ⟨I6.drawn pl sb, sb _ _ pnp h6⟩
      have pl6 := I6.pool
      have tx30 : ∀ i, (keptD D i).length + (lateD D i).length ≤ 30 := fun i => by have := I.bn.tx i; omega
      have nms : D.names.length < 64 := bd1.names
      have chl : D.ch.length ≤ 10 := by have := I.bn.ch; omega
      have nmOk : ∀ x ∈ srt (D.names.map (·.1)), ∀ c ∈ x, c < 1114112 := fun x m => by
        obtain ⟨pr, hpr, rfl⟩ := List.mem_map.mp ((srt_perm _).mem_iff.mp m)
        exact bd1.na pr hpr
      have npl := I.n4
      clear i1 I hh s6 pnH hp efh I6
      (repeat array_get_dec)
      refine for_range (lo := 0) (n := 4) (fun i σ H' => ∃ v5 v6 v7 v8 v9 v10 v11 v12 v14 v15 v16 v17, σ = [some (.ref sa), some (.ref p), some (.ref a), some (.ref h), some (.ref wl), v5, v6, v7, v8, v9, v10, v11, v12, some (.ref pn), v14, v15, v16, v17, none, none, none] ∧ PoolL H' p l ∧ SameBut p H6 H') ⟨_, _, _, _, _, _, _, _, _, _, _, _, rfl, pl6, SameBut.refl _ _⟩ ?_ ?_
      · rintro k σ H7 hk4 ⟨v5, v6, v7, v8, v9, v10, v11, v12, v14, v15, v16, v17, rfl, pl7, sb7⟩
        obtain ⟨I7, h7⟩ := J H7 pl7 sb7
        obtain ⟨nd1, cl1, fl1, ts1, fs1, efh, hp⟩ := id I7.he
        have hh := hp.hh
        have hc := hp.hc
        have a1 : atI [V.ref nd1, V.ref cl1, V.ref fl1] (1 : Int) = some (.ref cl1) := atI_nat (j := 1) rfl
        (repeat array_get_dec)
        refine ⟨p, l, _, rfl, pl7, by omega, by rw [List.length_map, hp.tp.len]; omega, fun v H8 v0 v1 pl8 sb8 => ?_⟩
        rw [List.length_map, hp.tp.len] at v1
        obtain ⟨c, rfl⟩ := Int.eq_ofNat_of_zero_le v0
        replace sb7 := sb7.trans sb8
        clear pl7 I7 h7 hh hc hp efh a1 sb8
        (repeat array_get_dec)
        refine ⟨by show 0 ≤ sizeLine; decide, fun t0 ht0 => ?_⟩
        (repeat array_get_dec)
        have h8n := upd_atN (o := .lst []) ht0 (J H8 pl8 sb7).2
        refine ⟨pn, kvT D.names, D.names.map fun p => mkS p.1, rfl, Rd.of h8n, kvT_keys _, by rw [List.length_map]; exact nms, fun ys q1 hpm hst hq1 => ?_⟩
        have e : ys = (srt (D.names.map (·.1))).map mkS := srtS (by rw [List.map_map]; exact hpm) hst
        rw [e, List.map_map]
        have kq : ∀ b o, H8 b = some o → upd (upd H8 t0 (.lst [])) q1 (.lst ((srt (D.names.map (·.1))).map (V.str ∘ mkS))) b = some o := fun b o e => upd_atN hq1 (upd_atN ht0 e)
        have plq : PoolL (upd (upd H8 t0 (.lst [])) q1 (.lst ((srt (D.names.map (·.1))).map (V.str ∘ mkS)))) p l := (pl8.new ht0).new hq1
        have t0q : upd (upd H8 t0 (.lst [])) q1 (.lst ((srt (D.names.map (·.1))).map (V.str ∘ mkS))) t0 = some (.lst []) := upd_atN hq1 upd_same
        have q1q : upd (upd H8 t0 (.lst [])) q1 (.lst ((srt (D.names.map (·.1))).map (V.str ∘ mkS))) q1 = some (.lst ((srt (D.names.map (·.1))).map sv)) := upd_same
        have q1t : q1 ≠ t0 := (hu2 hq1).1
        have q1p : q1 ≠ p := (pl8.new (o := .lst []) ht0).ne hq1
        have t0p : t0 ≠ p := pl8.ne ht0
        have t0l : t0 ≠ l := pl8.nel ht0
        generalize upd (upd H8 t0 (.lst [])) q1 _ = Hq at *
        clear hq1 h8n
        (repeat array_get_dec)
        refine for_list (K := K) (a := q1) (xs := (srt (D.names.map (·.1))).map sv) (fun i σ H' => ∃ v6 v16 ts trs, σ = [some (.ref sa), some (.ref p), some (.ref a), some (.ref h), some (.ref wl), some (.int (0 + (k : Int))), v6, v7, v8, v9, v10, v11, v12, some (.ref pn), some (.int (c : Int)), some (.ref t0), v16, v17, none, none, none] ∧
            H' t0 = some (.lst (ts.map V.ref)) ∧ TeAt H' ts trs ∧ PoolL H' p l ∧ (∀ b o, b ≠ p → b ≠ t0 → Hq b = some o → H' b = some o) ∧ (trs.map nameT).Sublist ((srt (D.names.map (·.1))).take i) ∧ ∀ t ∈ trs, isTwo t = false ∧ okTear D t) ⟨_, _, [], [], rfl, t0q, trivial, plq, fun b o _ _ e => e, List.nil_sublist _, fun t m => by cases m⟩ ?_ ?_ ?_
        · rintro i σ H' _ ⟨v6, v16, ts, trs, rfl, _, _, _, k8, _⟩
          exact SqL.of (k8 _ _ q1p q1t q1q)
        · rintro i v σ H9 hv ⟨v6, v16, ts, trs, rfl, h9t, te, pl9, k9, sub, okl⟩
          obtain ⟨x, hx, rfl⟩ := getE_map hv
          obtain ⟨n, gx⟩ := Option.isSome_iff_exists.mp (names_some (List.mem_of_getElem? hx))
          have e1 : valV (kvT D.names) (Sum.inr (mkS x)) = some (.int ((n : Nat) : Int)) := by rw [kvT_val, gx]; rfl
          have sb9 : SameBut p H6 H9 := fun b o np e => k9 b o np (fun z => by rw [z] at e; rw [sb7 _ _ t0p e] at ht0; cases ht0) (kq b o (sb7 b o np e))
          obtain ⟨I9, hpn⟩ := J H9 pl9 sb9
          obtain ⟨nd2, cl2, fl2, ts2, fs2, efh2, hp2⟩ := id I9.he
          have hh2 := hp2.hh
          have hf2 := hp2.hf
          have b2 : atI [V.ref nd2, V.ref cl2, V.ref fl2] (2 : Int) = some (.ref fl2) := atI_nat (j := 2) rfl
          have lti : n < fs2.length := by rw [hp2.len]; exact wfd.numN' gx
          have hfi : fs2[n]? = some fs2[n] := List.getElem?_eq_getElem lti
          have ff := hp2.ff n _ hfi
          have af : atI (fs2.map V.ref) (n : Int) = some (.ref fs2[n]) := atI_nat (by rw [List.getElem?_map, hfi]; rfl)
          have c1 : atI [sv (keptD D n), sv (lateD D n)] (1 : Int) = some (sv (lateD D n)) := atI_nat (j := 1) rfl
          have l30 := tx30 n
          have z1 : (mkS (lateD D n)).length ≤ sizeLine := by rw [sizeLine_eq, len_tl]; show (lateD D n).length ≤ _; omega
          have lnt : trs.length ≤ 64 := by
            have := sub.length_le
            have l1 : (srt (D.names.map (·.1))).length = D.names.length := by rw [(srt_perm _).length_eq, List.length_map]
            rw [List.length_map, List.length_take] at this
            omega
          (repeat array_get_dec)
          rw [len_tl]
          refine ⟨p, l, _, rfl, pl9, by omega, by show (((lateD D n).length : Nat) : Int) + 1 ≤ _; omega, fun v H10 v0 v1 pl10 sb10 => ?_⟩
          obtain ⟨s, rfl⟩ := Int.eq_ofNat_of_zero_le v0
          have sl : s ≤ (lateD D n).length := by have : (s : Int) < (((lateD D n).length : Nat) : Int) + 1 := v1; omega
          (repeat array_get_dec)
          refine ⟨p, l, 2, rfl, pl10, by omega, by omega, fun v H11 w0 w1 pl11 sb11 => ?_⟩
          have sbA := sb10.trans sb11
          have h11t := sbA _ _ t0p h9t
          (repeat array_get_dec)
          refine ite2 (fun hv0 => ?_) (fun hv0 => ?_)
          · (repeat array_get_dec)
            refine ite2 (fun hs0 => ?_) (fun hs0 => ?_)
            · (repeat array_get_dec)
              refine ⟨p, l, 3, rfl, pl11, by omega, by omega, fun v3 H12 _ _ pl12 sb12 => ?_⟩
              have sbB := sbA.trans sb12
              have h12t := sbB _ _ t0p h9t
              (repeat array_get_dec)
              refine ⟨by show 3 ≤ sizeLine; decide, fun t ht => ?_⟩
              have ht0 := upd_atN (o := .tup [sv x, .int ((s : Nat) : Int), .bl (decide (V.int v3 = V.int 0))]) ht h12t
              have lz : (ts.map V.ref).length < sizeLine := by rw [List.length_map, te.len, sizeLine_eq]; omega
              (repeat array_get_dec)
              have nt : t ≠ t0 := Ne.symm (ne_of_none h12t ht)
              have ktup : ∀ u xs, H9 u = some (.tup xs) → upd (upd H12 t (.tup [sv x, .int ((s : Nat) : Int), .bl (decide (V.int v3 = V.int 0))])) t0 (.lst (ts.map V.ref ++ [.ref t])) u = some (.tup xs) := fun u xs e => by
                rw [upd_ne fun z => by rw [z, h9t] at e; cases e]
                exact upd_atN ht (sbB u _ (noTupP pl9 _ _ e) e)
              refine ⟨_, _, ts ++ [t], trs ++ [.three x (s : Int) (.bl (decide (V.int v3 = V.int 0)))], rfl, by rw [upd_same, List.map_append]; rfl, (te.keep ktup).snoc (by rw [upd_ne nt, upd_same]; rfl), (pl12.new ht).put t0p t0l, fun b o np n0 e => ?_, ?_, fun t m => ?_⟩
              · rw [upd_ne n0]
                exact upd_atN ht (sbB b o np (k9 b o np n0 e))
              · rw [take_one hx, List.map_append]
                exact sub.append (List.Sublist.refl _)
              · rcases List.mem_append.mp m with m | m
                · exact okl t m
                · simp at m
                  subst m
                  refine ⟨rfl, ⟨n, gx, ?_⟩, _, rfl, fun z => by have := of_decide_eq_true hs0; omega⟩
                  rw [inIB_int, Bool.and_eq_true, decide_eq_true_eq, decide_eq_true_eq]
                  exact ⟨by omega, by omega⟩

            · (repeat array_get_dec)
              refine ⟨by show 3 ≤ sizeLine; decide, fun t ht => ?_⟩
              have ht0 := upd_atN (o := .tup [sv x, .int ((s : Nat) : Int), .bl (false)]) ht h11t
              have lz : (ts.map V.ref).length < sizeLine := by rw [List.length_map, te.len, sizeLine_eq]; omega
              (repeat array_get_dec)
              have nt : t ≠ t0 := Ne.symm (ne_of_none h11t ht)
              have ktup : ∀ u xs, H9 u = some (.tup xs) → upd (upd H11 t (.tup [sv x, .int ((s : Nat) : Int), .bl (false)])) t0 (.lst (ts.map V.ref ++ [.ref t])) u = some (.tup xs) := fun u xs e => by
                rw [upd_ne fun z => by rw [z, h9t] at e; cases e]
                exact upd_atN ht (sbA u _ (noTupP pl9 _ _ e) e)
              refine ⟨_, _, ts ++ [t], trs ++ [.three x (s : Int) (.bl (false))], rfl, by rw [upd_same, List.map_append]; rfl, (te.keep ktup).snoc (by rw [upd_ne nt, upd_same]; rfl), (pl11.new ht).put t0p t0l, fun b o np n0 e => ?_, ?_, fun t m => ?_⟩
              · rw [upd_ne n0]
                exact upd_atN ht (sbA b o np (k9 b o np n0 e))
              · rw [take_one hx, List.map_append]
                exact sub.append (List.Sublist.refl _)
              · rcases List.mem_append.mp m with m | m
                · exact okl t m
                · simp at m
                  subst m
                  refine ⟨rfl, ⟨n, gx, ?_⟩, _, rfl, fun z => by cases z.1⟩
                  rw [inIB_int, Bool.and_eq_true, decide_eq_true_eq, decide_eq_true_eq]
                  exact ⟨by omega, by omega⟩

          · refine ⟨_, _, ts, trs, rfl, h11t, te.keep fun u xs e => sbA u _ (noTupP pl9 _ _ e) e, pl11, fun b o np n0 e => sbA b o np (k9 b o np n0 e), sub.trans (by rw [take_one hx]; exact List.sublist_append_left _ _), okl⟩
        · rintro σ H9 ⟨v6, v16, ts, trs, rfl, h9t, te, pl9, k9, sub, okl⟩
          have sb9 : SameBut p H6 H9 := fun b o np e => k9 b o np (fun z => by rw [z] at e; rw [sb7 _ _ t0p e] at ht0; cases ht0) (kq b o (sb7 b o np e))
          obtain ⟨I9, hpn⟩ := J H9 pl9 sb9
          rw [List.length_map, List.take_length] at sub
          have l1 : (srt (D.names.map (·.1))).length = D.names.length := by rw [(srt_perm _).length_eq, List.length_map]
          have lnt : trs.length < 64 := by
            have := sub.length_le
            rw [List.length_map] at this
            omega
          have inb : inIB D.ch.length (.int (c : Int)) = some c := by
            show (if 0 ≤ (c : Int) ∧ (c : Int) ≤ (D.ch.length : Int) then some (c : Int).toNat else none) = some c
            rw [if_pos ⟨by omega, by omega⟩, Int.toNat_natCast]
          have okt : okTears D (.int (c : Int)) trs := ⟨by rw [inb]; rfl, fun t m => (okl t m).1, ⟨sub.nodup (srt_nd wfd.ndN), List.Pairwise.sublist sub (srt_pair _)⟩, fun t m => (okl t m).2⟩
          have na : ∀ t ∈ trs, ∀ k ∈ nameT t, k < 1114112 := fun t m => nmOk _ (sub.subset (List.mem_map_of_mem m))
          (repeat array_get_dec)
          intro lc hlc
          have I10 := I9.same (same_upd (o := .lst (ts.map V.ref)) (Same.refl _) hlc)
          have te10 := te.keep (H' := upd H9 lc (.lst (ts.map V.ref))) fun u xs e => upd_atN hlc e
          have h10t := upd_atN (o := .lst (ts.map V.ref)) hlc h9t
          (repeat array_get_dec)
          refine ⟨a, fp, D, .int (c : Int), lc, ts, trs, rfl, I10.dk, upd_same, te10, lnt, fun z => I9.dk.1.has lc z hlc, na, fun _ k2 hk2 => ?_, fun z => absurd okt z⟩
          rw [inb] at hk2
          cases hk2
          refine ⟨bdF c trs, fun b H11 fb dkb s11 frb => ?_⟩
          obtain ⟨⟨kb, lb, nb, sb, cb, tsb, efb, ⟨_, ⟨dxb, hib⟩, _⟩⟩, _⟩ := id dkb
          have I11 := I10.same s11
          have te11 := te10.keep (H' := H11) fun u xs e => s11 _ _ e
          have h11t := s11 _ _ h10t
          (repeat array_get_dec)
          refine w_isiO hib M.clD M.isD ?_
          (repeat array_get_dec)
          refine ⟨b, h, t0, fb, fh, D, c, ts, trs, rfl, dkb, I11.he, wfd, I11.bn.bd wfd (by omega), nx, by omega, h11t, te11, lnt, fun t m => (okl t m).2, fun H12 s12 => ?_⟩
          have I12 := I11.same s12
          (repeat array_get_dec)
          refine ⟨a, h, fp, fh, D, rfl, I12.dk, I12.he, nx, nob, fun H13 s13 => ?_⟩
          have I13 := I12.same s13
          (repeat array_get_dec)
          exact ⟨_, _, _, _, _, _, _, _, _, _, _, _, rfl, I13.pool, fun b o np e => s13 _ _ (s12 _ _ (s11 _ _ (upd_atN hlc (sb9 b o np e))))⟩
      · rintro σ H7 ⟨v5, v6, v7, v8, v9, v10, v11, v12, v14, v15, v16, v17, rfl, pl7, sb7⟩
        obtain ⟨I7, h7⟩ := J H7 pl7 sb7
        clear J pl7 sb7 pl6 h6
        (repeat array_get_dec)
        refine ⟨pn, kvT D.names, D.names.map fun p => mkS p.1, rfl, Rd.of h7, kvT_keys _, by rw [List.length_map]; exact nms, fun ys q1 hpm hst hq1 => ?_⟩
        have e : ys = (srt (D.names.map (·.1))).map mkS := srtS (by rw [List.map_map]; exact hpm) hst
        rw [e, List.map_map]
        have I8 := I7.same (same_upd (o := .lst ((srt (D.names.map (·.1))).map (V.str ∘ mkS))) (Same.refl _) hq1)
        have h8 := upd_atN (o := .lst ((srt (D.names.map (·.1))).map (V.str ∘ mkS))) hq1 h7
        have q8 : upd H7 q1 (.lst ((srt (D.names.map (·.1))).map (V.str ∘ mkS))) q1 = some (.lst ((srt (D.names.map (·.1))).map sv)) := upd_same
        generalize upd H7 q1 _ = H8 at *
        clear I7 h7 hq1
        (repeat array_get_dec)
        intro A2 hA2
        have qA : A2 ≠ q1 := fun z => by rw [z, q8] at hA2; cases hA2
        refine lc_list (K := K) (a := q1) (xs := (srt (D.names.map (·.1))).map sv) (fun i H' => (∃ ts : List Addr, H' A2 = some (.lst (ts.map V.ref)) ∧ TeAt H' ts ((everyT D).take i)) ∧ ∀ b o, b ≠ A2 → H8 b = some o → H' b = some o) ⟨⟨[], upd_same, trivial⟩, fun b o nb e => by rw [upd_ne nb]; exact e⟩ ?_ ?_ ?_
        · rintro i H' _ ⟨_, g4⟩
          exact SqL.of (g4 _ _ (Ne.symm qA) q8)
        · rintro i v H' hv ⟨⟨ts, g3, te⟩, g4⟩
          obtain ⟨x, hx, rfl⟩ := getE_map hv
          obtain ⟨n, gx⟩ := Option.isSome_iff_exists.mp (names_some (List.mem_of_getElem? hx))
          have e1 : valV (kvT D.names) (Sum.inr (mkS x)) = some (.int ((n : Nat) : Int)) := by rw [kvT_val, gx]; rfl
          have s4 : Same H8 H' := upd_atS hA2 g4
          have I9 := I8.same s4
          have hpn := s4 _ _ h8
          obtain ⟨nd2, cl2, fl2, ts2, fs2, efh2, hp2⟩ := id I9.he
          have hh2 := hp2.hh
          have hf2 := hp2.hf
          have b2 : atI [V.ref nd2, V.ref cl2, V.ref fl2] (2 : Int) = some (.ref fl2) := atI_nat (j := 2) rfl
          have lti : n < fs2.length := by rw [hp2.len]; exact wfd.numN' gx
          have hfi : fs2[n]? = some fs2[n] := List.getElem?_eq_getElem lti
          have ff := hp2.ff n _ hfi
          have af : atI (fs2.map V.ref) (n : Int) = some (.ref fs2[n]) := atI_nat (by rw [List.getElem?_map, hfi]; rfl)
          have c1 : atI [sv (keptD D n), sv (lateD D n)] (1 : Int) = some (sv (lateD D n)) := atI_nat (j := 1) rfl
          have l30 := tx30 n
          have z1 : (mkS (lateD D n)).length ≤ sizeLine := by rw [sizeLine_eq, len_tl]; show (lateD D n).length ≤ _; omega
          have ltt : ts.length ≤ 64 := by
            have l1 : (srt (D.names.map (·.1))).length = D.names.length := by rw [(srt_perm _).length_eq, List.length_map]
            rw [te.len, List.length_take]
            unfold everyT
            rw [List.length_map]
            omega
          have lz : (ts.map V.ref).length < sizeLine := by rw [List.length_map, sizeLine_eq]; omega
          (repeat array_get_dec)
          refine ⟨by show 3 ≤ sizeLine; decide, fun t ht => ?_⟩
          have g3' := upd_atN (o := .tup [sv x, .int (((mkS (lateD D n)).length : Nat) : Int), .bl false]) ht g3
          (repeat array_get_dec)
          have nt : t ≠ A2 := Ne.symm (ne_of_none g3 ht)
          refine ⟨⟨ts ++ [t], by rw [upd_same, List.map_append]; rfl, ?_⟩, fun b o nb e => by rw [upd_ne nb]; exact upd_atN ht (g4 b o nb e)⟩
          have ea : (everyT D)[i]? = some (.three x ((lateD D n).length : Int) (.bl false)) := by
            unfold everyT
            rw [List.getElem?_map, hx]
            show some (Tear.three x _ _) = _
            rw [gx]
            rfl
          rw [take_one ea]
          refine TeAt.snoc (te.keep fun u xs e => ?_) ?_
          · rw [upd_ne fun z => by rw [z, g3] at e; cases e]
            exact upd_atN ht e
          · rw [upd_ne nt, upd_same]
            rfl
        · rintro H9 ⟨⟨ts, g3, te⟩, g4⟩
          have s4 : Same H8 H9 := upd_atS hA2 g4
          have at2 : (everyT D).take ((srt (D.names.map (·.1))).map sv).length = everyT D := List.take_of_length_le (by unfold everyT; rw [List.length_map, List.length_map]; exact Nat.le_refl _)
          rw [at2] at te
          have I9 := I8.same s4
          have hpn := s4 _ _ h8
          have evl : (everyT D).length < 64 := by
            have l1 : (srt (D.names.map (·.1))).length = D.names.length := by rw [(srt_perm _).length_eq, List.length_map]
            unfold everyT
            rw [List.length_map]
            omega
          clear s4 g4 I8 h8 q8
          (repeat array_get_dec)
          refine ⟨a, fp, D, rfl, I9.dk, bdF D.ch.length (allT D), fun b H10 fb dkb s10 frb => ?_⟩
          rw [found_every wfd] at dkb
          have I10 := I9.same s10
          obtain ⟨nd1, cl1, fl1, ts1, fs1, efh, hp⟩ := id I10.he
          have hh := hp.hh
          have hc := hp.hc
          have a1 : atI [V.ref nd1, V.ref cl1, V.ref fl1] (1 : Int) = some (.ref cl1) := atI_nat (j := 1) rfl
          (repeat array_get_dec)
          rw [List.length_map, hp.tp.len]
          refine ⟨b, h, A2, fb, fh, D, D.ch.length, ts, everyT D, rfl, dkb, I10.he, wfd, I10.bn.bd wfd (by omega), nx, Nat.le_refl _, s10 _ _ g3, te.keep fun u xs e => s10 _ _ e, evl, every_ok, fun H11 s11 => ?_⟩
          have I11 := I10.same s11
          clear hp hh hc a1 efh dkb frb
          (repeat array_get_dec)
          refine ⟨a, fp, D, rfl, I11.dk, bdF 0 [], fun b H12 fb dkb s12 frb => ?_⟩
          have I12 := I11.same s12
          (repeat array_get_dec)
          refine ⟨by show 0 ≤ sizeLine; decide, fun e1 he1 => ?_⟩
          have I13 := I12.same (same_upd (o := .lst []) (Same.refl _) he1)
          (repeat array_get_dec)
          refine ⟨b, h, e1, fb, fh, D, 0, [], [], rfl, dkb.same (same_upd (Same.refl _) he1), I13.he, wfd, I13.bn.bd wfd (by omega), nx, Nat.zero_le _, upd_same, trivial, by decide, fun t m => (by cases m), fun H14 s14 => ?_⟩
          have I14 := I13.same s14
          have h14 : H14 pn = some (.dK (kvT D.names)) := s14 _ _ (upd_atN he1 (s12 _ _ (s11 _ _ (s10 _ _ hpn))))
          clear I9 I10 I11 I12 I13 s10 s11 s12 s14 he1 dkb frb te g3 hpn evl
          have I := I14
          have hpn := h14
          clear I14 h14
          (repeat array_get_dec)
          refine ⟨by show 0 ≤ sizeLine; decide, fun e1 he1 => ?_⟩
          (repeat array_get_dec)
          refine ⟨by show 2 ≤ sizeLine; decide, fun w1 hw1 => ?_⟩
          have W1 : WrongV fp D (upd (upd H14 e1 (.lst [])) w1 (.tup [.int (-1), .ref e1])) (.ref w1) := ⟨w1, .int (-1), e1, [], [], rfl, upd_same, upd_atN hw1 upd_same, trivial, by decide, fun t m => (by cases m), fun z => I.dk.1.has e1 z he1, noW1⟩
          have s : Same H14 (upd (upd H14 e1 (.lst [])) w1 (.tup [.int (-1), .ref e1])) := fun b o e => upd_atN hw1 (upd_atN he1 e)
          replace I := I.same s
          replace hpn := s _ _ hpn
          generalize upd (upd H14 e1 _) w1 _ = H15 at *
          obtain ⟨nd1, cl1, fl1, ts1, fs1, efh, hp⟩ := id I.he
          have hh := hp.hh
          have hc := hp.hc
          have a1 : atI [V.ref nd1, V.ref cl1, V.ref fl1] (1 : Int) = some (.ref cl1) := atI_nat (j := 1) rfl
          have lch : ((ts1.map V.ref).length : Int) = (D.ch.length : Int) := by rw [List.length_map, hp.tp.len]
          clear s
          (repeat array_get_dec)
          rw [lch]
          clear hp hh hc a1 efh lch
          refine ⟨by show 0 ≤ sizeLine; decide, fun e1 he1 => ?_⟩
          (repeat array_get_dec)
          refine ⟨by show 2 ≤ sizeLine; decide, fun w1 hw1 => ?_⟩
          have W2 : WrongV fp D (upd (upd H15 e1 (.lst [])) w1 (.tup [.int ((D.ch.length : Int) + 1), .ref e1])) (.ref w1) := ⟨w1, .int ((D.ch.length : Int) + 1), e1, [], [], rfl, upd_same, upd_atN hw1 upd_same, trivial, by decide, fun t m => (by cases m), fun z => I.dk.1.has e1 z he1, noW2⟩
          have s : Same H15 (upd (upd H15 e1 (.lst [])) w1 (.tup [.int ((D.ch.length : Int) + 1), .ref e1])) := fun b o e => upd_atN hw1 (upd_atN he1 e)
          replace I := I.same s
          replace hpn := s _ _ hpn
          replace W1 := W1.same s
          generalize upd (upd H15 e1 _) w1 _ = H16 at *
          obtain ⟨nd1, cl1, fl1, ts1, fs1, efh, hp⟩ := id I.he
          have hh := hp.hh
          have hc := hp.hc
          have a1 : atI [V.ref nd1, V.ref cl1, V.ref fl1] (1 : Int) = some (.ref cl1) := atI_nat (j := 1) rfl
          have lch : ((ts1.map V.ref).length : Int) = (D.ch.length : Int) := by rw [List.length_map, hp.tp.len]
          clear s
          (repeat array_get_dec)
          clear hp hh hc a1 efh lch
          refine ⟨by show 0 ≤ sizeLine; decide, fun e1 he1 => ?_⟩
          (repeat array_get_dec)
          refine ⟨by show 2 ≤ sizeLine; decide, fun w1 hw1 => ?_⟩
          have W3 : WrongV fp D (upd (upd H16 e1 (.lst [])) w1 (.tup [.bl true, .ref e1])) (.ref w1) := ⟨w1, .bl true, e1, [], [], rfl, upd_same, upd_atN hw1 upd_same, trivial, by decide, fun t m => (by cases m), fun z => I.dk.1.has e1 z he1, noW3⟩
          have s : Same H16 (upd (upd H16 e1 (.lst [])) w1 (.tup [.bl true, .ref e1])) := fun b o e => upd_atN hw1 (upd_atN he1 e)
          replace I := I.same s
          replace hpn := s _ _ hpn
          replace W1 := W1.same s
          replace W2 := W2.same s
          generalize upd (upd H16 e1 _) w1 _ = H17 at *
          obtain ⟨nd1, cl1, fl1, ts1, fs1, efh, hp⟩ := id I.he
          have hh := hp.hh
          have hc := hp.hc
          have a1 : atI [V.ref nd1, V.ref cl1, V.ref fl1] (1 : Int) = some (.ref cl1) := atI_nat (j := 1) rfl
          have lch : ((ts1.map V.ref).length : Int) = (D.ch.length : Int) := by rw [List.length_map, hp.tp.len]
          clear s
          (repeat array_get_dec)
          clear hp hh hc a1 efh lch
          refine ⟨by show 3 ≤ sizeLine; decide, fun t1 ht1 => ?_⟩
          (repeat array_get_dec)
          refine ⟨by show 1 ≤ sizeLine; decide, fun e1 he1 => ?_⟩
          (repeat array_get_dec)
          refine ⟨by show 2 ≤ sizeLine; decide, fun w1 hw1 => ?_⟩
          have W4 : WrongV fp D (upd (upd (upd H17 t1 (.tup [V.str (Str.ofString "nobodyhere"), .int 0, .bl false])) e1 (.lst [.ref t1])) w1 (.tup [.int 0, .ref e1])) (.ref w1) := ⟨w1, .int 0, e1, [t1], [.three (tl (Str.ofString "nobodyhere")) 0 (.bl false)], rfl, upd_same, upd_atN hw1 upd_same, ⟨upd_atN hw1 (upd_atN he1 upd_same), trivial⟩, by simp, fun t m => (by rw [List.mem_singleton] at m; subst m; decide +kernel), fun z => I.dk.1.has e1 z (hu2 he1).2, noW4 nob⟩
          have s : Same H17 (upd (upd (upd H17 t1 (.tup [V.str (Str.ofString "nobodyhere"), .int 0, .bl false])) e1 (.lst [.ref t1])) w1 (.tup [.int 0, .ref e1])) := fun b o e => upd_atN hw1 (upd_atN he1 (upd_atN ht1 e))
          replace I := I.same s
          replace hpn := s _ _ hpn
          replace W1 := W1.same s
          replace W2 := W2.same s
          replace W3 := W3.same s
          generalize upd (upd (upd H17 t1 _) e1 _) w1 _ = H18 at *
          obtain ⟨nd1, cl1, fl1, ts1, fs1, efh, hp⟩ := id I.he
          have hh := hp.hh
          have hc := hp.hc
          have a1 : atI [V.ref nd1, V.ref cl1, V.ref fl1] (1 : Int) = some (.ref cl1) := atI_nat (j := 1) rfl
          have lch : ((ts1.map V.ref).length : Int) = (D.ch.length : Int) := by rw [List.length_map, hp.tp.len]
          clear s
          (repeat array_get_dec)
          clear hp hh hc a1 efh lch
          refine ⟨by show 2 ≤ sizeLine; decide, fun t1 ht1 => ?_⟩
          (repeat array_get_dec)
          refine ⟨by show 1 ≤ sizeLine; decide, fun e1 he1 => ?_⟩
          (repeat array_get_dec)
          refine ⟨by show 2 ≤ sizeLine; decide, fun w1 hw1 => ?_⟩
          have W5 : WrongV fp D (upd (upd (upd H18 t1 (.tup [.int 1, .int 2])) e1 (.lst [.ref t1])) w1 (.tup [.int 0, .ref e1])) (.ref w1) := ⟨w1, .int 0, e1, [t1], [.two 1 2], rfl, upd_same, upd_atN hw1 upd_same, ⟨upd_atN hw1 (upd_atN he1 upd_same), trivial⟩, by simp, fun t m => (by rw [List.mem_singleton] at m; subst m; exact fun k mk => (by cases mk)), fun z => I.dk.1.has e1 z (hu2 he1).2, noW5⟩
          have s : Same H18 (upd (upd (upd H18 t1 (.tup [.int 1, .int 2])) e1 (.lst [.ref t1])) w1 (.tup [.int 0, .ref e1])) := fun b o e => upd_atN hw1 (upd_atN he1 (upd_atN ht1 e))
          replace I := I.same s
          replace hpn := s _ _ hpn
          replace W1 := W1.same s
          replace W2 := W2.same s
          replace W3 := W3.same s
          replace W4 := W4.same s
          generalize upd (upd (upd H18 t1 _) e1 _) w1 _ = H19 at *
          obtain ⟨nd1, cl1, fl1, ts1, fs1, efh, hp⟩ := id I.he
          have hh := hp.hh
          have hc := hp.hc
          have a1 : atI [V.ref nd1, V.ref cl1, V.ref fl1] (1 : Int) = some (.ref cl1) := atI_nat (j := 1) rfl
          have lch : ((ts1.map V.ref).length : Int) = (D.ch.length : Int) := by rw [List.length_map, hp.tp.len]
          clear s
          (repeat array_get_dec)
          clear hp hh hc a1 efh lch
          refine ⟨by show 5 ≤ sizeLine; decide, fun r1 hr1 => ?_⟩
          generalize hxs : ([_, _, _, _, _] : List V) = xs at *
          have all5 : ∀ v ∈ xs, WrongV fp D H19 v := by
            intro v mv
            rw [← hxs] at mv
            simp only [List.mem_cons, List.not_mem_nil, or_false] at mv
            rcases mv with rfl | rfl | rfl | rfl | rfl <;> assumption
          have s : Same H19 (upd H19 r1 (.lst xs)) := same_upd (Same.refl _) hr1
          have r20 : upd H19 r1 (.lst xs) r1 = some (.lst xs) := upd_same
          replace I := I.same s
          replace hpn := s _ _ hpn
          have all6 : ∀ v ∈ xs, WrongV fp D (upd H19 r1 (.lst xs)) v := fun v mv => (all5 v mv).same s
          generalize upd H19 r1 (.lst xs) = H20 at *
          clear all5 W1 W2 W3 W4 W5 hxs s hr1
          (repeat array_get_dec)
          refine for_list (K := K) (a := r1) (xs := xs) (fun i σ H' => ∃ v5 v6 v7 v8 v9 v10 v11 v12 v14 v15 v16 v17 v18 v19, σ = [some (.ref sa), some (.ref p), some (.ref a), some (.ref h), some (.ref wl), v5, v6, v7, v8, v9, v10, v11, v12, some (.ref pn), v14, v15, v16, v17, v18, v19, none] ∧ Same H20 H') ⟨_, _, _, _, _, _, _, _, _, _, _, _, _, _, rfl, Same.refl _⟩ ?_ ?_ ?_
          · rintro i σ H' _ ⟨v5, v6, v7, v8, v9, v10, v11, v12, v14, v15, v16, v17, v18, v19, rfl, s⟩
            exact SqL.of (s _ _ r20)
          · rintro i v σ H' hv ⟨v5, v6, v7, v8, v9, v10, v11, v12, v14, v15, v16, v17, v18, v19, rfl, s⟩
            obtain ⟨t, c, li, ts, trs, rfl, h1, h2, te, h64, na, nli, no⟩ := (all6 v (List.mem_of_getElem? hv)).same s
            have c0 : atI [vIB c, V.ref li] (0 : Int) = some (vIB c) := atI_nat (j := 0) rfl
            have c1 : atI [vIB c, V.ref li] (1 : Int) = some (.ref li) := atI_nat (j := 1) rfl
            have I2 := I.same s
            (repeat array_get_dec)
            refine ⟨a, fp, D, c, li, ts, trs, rfl, I2.dk, h2, te, h64, nli, na, fun z => absurd z no, fun _ H3 s3 => ?_⟩
            (repeat array_get_dec)
            exact ⟨_, _, _, _, _, _, _, _, _, _, _, _, _, _, rfl, fun b o e => s3 _ _ (s b o e)⟩
          · rintro σ H' ⟨v5, v6, v7, v8, v9, v10, v11, v12, v14, v15, v16, v17, v18, v19, rfl, s⟩
            replace I := I.same s
            replace hpn := s _ _ hpn
            clear s all6 r20
            (repeat array_get_dec)
            refine ⟨pn, _, hpn, trivial, fun od => ?_⟩
            replace I : LawI M.CD (upd H' pn (.frz od (.dK (kvT D.names)))) p l a h wl fp fh D D (2 + nv) := I.frz pnfp pnp hpn
            have hfz : upd H' pn (.frz od (.dK (kvT D.names))) pn = some (.frz od (.dK (kvT D.names))) := upd_same
            generalize upd H' pn _ = H21 at *
            clear hpn
            (repeat array_get_dec)
            refine for_keys (d := pn) (od := od) (kvs := kvT D.names) (fun i σ H2 => ∃ v5 v6 v7 v8 v9 v10 v11 v12 v14 v15 v16 v17 v18 v19 v20, σ = [some (.ref sa), some (.ref p), some (.ref a), some (.ref h), some (.ref wl), v5, v6, v7, v8, v9, v10, v11, v12, some (.ref pn), v14, v15, v16, v17, v18, v19, v20] ∧ Same H21 H2) ⟨_, _, _, _, _, _, _, _, _, _, _, _, _, _, _, rfl, Same.refl _⟩ ?_ ?_ ?_
            · rintro i σ H2 _ ⟨v5, v6, v7, v8, v9, v10, v11, v12, v14, v15, v16, v17, v18, v19, v20, rfl, s⟩
              exact s _ _ hfz
            · rintro i ky v σ H2 hkv ⟨v5, v6, v7, v8, v9, v10, v11, v12, v14, v15, v16, v17, v18, v19, v20, rfl, s⟩
              obtain ⟨⟨x, n⟩, hLi, ekv⟩ : ∃ p, D.names[i]? = some p ∧ (ky, v) = ((Sum.inr (mkS p.1) : Key), V.int (p.2 : Int)) := by
                unfold kvT at hkv
                rw [List.getElem?_map] at hkv
                cases e : D.names[i]? with
                | none => rw [e] at hkv; cases hkv
                | some p => rw [e] at hkv; exact ⟨p, rfl, (Option.some.inj hkv).symm⟩
              cases ekv
              have gx : getA D.names x = some n := getA_of_mem wfd.ndN (List.mem_of_getElem? hLi)
              have xOk : ∀ c ∈ x, c < 1114112 := nmOk x ((srt_perm _).mem_iff.mpr (List.mem_map_of_mem (f := (·.1)) (List.mem_of_getElem? hLi)))
              have e1 : valV (kvT D.names) (Sum.inr (mkS x)) = some (.int ((n : Nat) : Int)) := by rw [kvT_val, gx]; rfl
              have hfz2 := s _ _ hfz
              have I2 := I.same s
              obtain ⟨nd2, cl2, fl2, ts2, fs2, efh2, hp2⟩ := id I2.he
              have hh2 := hp2.hh
              have hf2 := hp2.hf
              have b2 : atI [V.ref nd2, V.ref cl2, V.ref fl2] (2 : Int) = some (.ref fl2) := atI_nat (j := 2) rfl
              have lti : n < fs2.length := by rw [hp2.len]; exact wfd.numN' gx
              have hfi : fs2[n]? = some fs2[n] := List.getElem?_eq_getElem lti
              have ff := hp2.ff n _ hfi
              have af : atI (fs2.map V.ref) (n : Int) = some (.ref fs2[n]) := atI_nat (by rw [List.getElem?_map, hfi]; rfl)
              have c1 : atI [sv (keptD D n), sv (lateD D n)] (1 : Int) = some (sv (lateD D n)) := atI_nat (j := 1) rfl
              have l30 := tx30 n
              have z1 : (mkS (lateD D n)).length ≤ sizeLine := by rw [sizeLine_eq, len_tl]; show (lateD D n).length ≤ _; omega
              dsimp only [kV]
              (repeat array_get_dec)
              refine ⟨by show 3 ≤ sizeLine; decide, fun w1 hw1 => ?_⟩
              (repeat array_get_dec)
              refine ⟨by show 3 ≤ sizeLine; decide, fun w2 hw2 => ?_⟩
              (repeat array_get_dec)
              refine ⟨by show 3 ≤ sizeLine; decide, fun w3 hw3 => ?_⟩
              (repeat array_get_dec)
              refine ⟨by show 3 ≤ sizeLine; decide, fun w4 hw4 => ?_⟩
              (repeat array_get_dec)
              refine ⟨by show 4 ≤ sizeLine; decide, fun r1 hr1 => ?_⟩
              have T1 : TearV D (upd (upd (upd (upd H2 w1 (.tup [sv x, .int ((((mkS (lateD D n)).length : Nat) : Int) + 1), .bl false])) w2 (.tup [sv x, .int (-1), .bl false])) w3 (.tup [sv x, .int 0, .bl true])) w4 (.tup [sv x, .int 0, .int 1])) (.ref w1) := ⟨w1, .three x (((lateD D n).length : Int) + 1) (.bl false), rfl, upd_atN hw4 (upd_atN hw3 (upd_atN hw2 upd_same)), xOk, noT (noT1 gx)⟩
              have T2 : TearV D (upd (upd (upd (upd H2 w1 (.tup [sv x, .int ((((mkS (lateD D n)).length : Nat) : Int) + 1), .bl false])) w2 (.tup [sv x, .int (-1), .bl false])) w3 (.tup [sv x, .int 0, .bl true])) w4 (.tup [sv x, .int 0, .int 1])) (.ref w2) := ⟨w2, .three x (-1) (.bl false), rfl, upd_atN hw4 (upd_atN hw3 upd_same), xOk, noT noT2⟩
              have T3 : TearV D (upd (upd (upd (upd H2 w1 (.tup [sv x, .int ((((mkS (lateD D n)).length : Nat) : Int) + 1), .bl false])) w2 (.tup [sv x, .int (-1), .bl false])) w3 (.tup [sv x, .int 0, .bl true])) w4 (.tup [sv x, .int 0, .int 1])) (.ref w3) := ⟨w3, .three x 0 (.bl true), rfl, upd_atN hw4 upd_same, xOk, noT noT3⟩
              have T4 : TearV D (upd (upd (upd (upd H2 w1 (.tup [sv x, .int ((((mkS (lateD D n)).length : Nat) : Int) + 1), .bl false])) w2 (.tup [sv x, .int (-1), .bl false])) w3 (.tup [sv x, .int 0, .bl true])) w4 (.tup [sv x, .int 0, .int 1])) (.ref w4) := ⟨w4, .three x 0 (.int 1), rfl, upd_same, xOk, noT noT4⟩
              have s3 : Same H2 (upd (upd (upd (upd H2 w1 (.tup [sv x, .int ((((mkS (lateD D n)).length : Nat) : Int) + 1), .bl false])) w2 (.tup [sv x, .int (-1), .bl false])) w3 (.tup [sv x, .int 0, .bl true])) w4 (.tup [sv x, .int 0, .int 1])) := fun b o e => upd_atN hw4 (upd_atN hw3 (upd_atN hw2 (upd_atN hw1 e)))
              generalize upd (upd (upd (upd H2 w1 _) w2 _) w3 _) w4 _ = H3 at *
              generalize hxs : ([_, _, _, _] : List V) = xs at *
              have s4 : Same H2 (upd H3 r1 (.lst xs)) := fun b o e => upd_atN hr1 (s3 _ _ e)
              have all4 : ∀ v ∈ xs, TearV D (upd H3 r1 (.lst xs)) v := by
                intro v mv
                rw [← hxs] at mv
                simp only [List.mem_cons, List.not_mem_nil, or_false] at mv
                rcases mv with rfl | rfl | rfl | rfl <;> (refine TearV.same ?_ (same_upd (Same.refl _) hr1); assumption)
              have r4 : upd H3 r1 (.lst xs) r1 = some (.lst xs) := upd_same
              generalize upd H3 r1 (.lst xs) = H4 at *
              have I4 := I2.same s4
              clear T1 T2 T3 T4 hxs s3 hr1 hw1 hw2 hw3 hw4 I2 hp2 hh2 hf2 ff efh2 hfz2
              (repeat array_get_dec)
              refine for_list (K := K) (a := r1) (xs := xs) (fun i σ H' => ∃ v5 v7 v8 v9 v10 v11 v12 v14 v15 v16 v17 v18 v19 v20, σ = [some (.ref sa), some (.ref p), some (.ref a), some (.ref h), some (.ref wl), v5, some (sv x), v7, v8, v9, v10, v11, v12, some (.ref pn), v14, v15, v16, v17, v18, v19, v20] ∧ Same H4 H') ⟨_, _, _, _, _, _, _, _, _, _, _, _, _, _, rfl, Same.refl _⟩ ?_ ?_ ?_
              · rintro i σ H' _ ⟨v5, v7, v8, v9, v10, v11, v12, v14, v15, v16, v17, v18, v19, v20, rfl, s5⟩
                exact SqL.of (s5 _ _ r4)
              · rintro i v σ H' hv ⟨v5, v7, v8, v9, v10, v11, v12, v14, v15, v16, v17, v18, v19, v20, rfl, s5⟩
                obtain ⟨t, tr, rfl, ht, tOk, no⟩ := (all4 v (List.mem_of_getElem? hv)).same s5
                have I5 := I4.same s5
                (repeat array_get_dec)
                refine ⟨by show 1 ≤ sizeLine; decide, fun e2 he2 => ?_⟩
                have I6 := I5.same (same_upd (o := .lst [V.ref t]) (Same.refl _) he2)
                (repeat array_get_dec)
                refine ⟨a, fp, D, .int 0, e2, [t], [tr], rfl, I6.dk, upd_same, ⟨upd_atN he2 ht, trivial⟩, by simp, fun z => I5.dk.1.has e2 z he2, fun u m => (by rw [List.mem_singleton] at m; subst m; exact tOk), fun z => absurd z no, fun _ H6 s6 => ?_⟩
                have I7 := I6.same s6
                (repeat array_get_dec)
                refine ⟨by show 3 ≤ sizeLine; decide, fun u1 hu3 => ?_⟩
                (repeat array_get_dec)
                refine ⟨by show 3 ≤ sizeLine; decide, fun u2 hu4 => ?_⟩
                (repeat array_get_dec)
                refine ⟨by show 2 ≤ sizeLine; decide, fun e3 he3 => ?_⟩
                have I8 := ((I7.same (same_upd (o := .tup (tupT (.three x 0 (.bl false)))) (Same.refl _) hu3)).same (same_upd (o := .tup (tupT (.three x 0 (.bl false)))) (Same.refl _) hu4)).same (same_upd (o := .lst [V.ref u1, V.ref u2]) (Same.refl _) he3)
                (repeat array_get_dec)
                refine ⟨a, fp, D, .int 0, e3, [u1, u2], [.three x 0 (.bl false), .three x 0 (.bl false)], rfl, I8.dk, upd_same, ⟨upd_atN he3 (upd_atN hu4 upd_same), upd_atN he3 upd_same, trivial⟩, by simp, fun z => I7.dk.1.has e3 z (hu2 (hu2 he3).2).2, fun u m => (by
                  simp only [List.mem_cons, List.not_mem_nil, or_false, or_self] at m
                  subst m
                  exact xOk), fun z => absurd z noTT, fun _ H9 s9 => ?_⟩
                (repeat array_get_dec)
                exact ⟨_, _, _, _, _, _, _, _, _, _, _, _, _, _, rfl, fun b o e => s9 _ _ (upd_atN he3 (upd_atN hu4 (upd_atN hu3 (s6 _ _ (upd_atN he2 (s5 _ _ e))))))⟩
              · rintro σ H' ⟨v5, v7, v8, v9, v10, v11, v12, v14, v15, v16, v17, v18, v19, v20, rfl, s5⟩
                (repeat array_get_dec)
                exact ⟨_, _, _, _, _, _, _, _, _, _, _, _, _, _, _, rfl, fun b o e => s5 _ _ (s4 _ _ (s _ _ e))⟩
            · rintro σ H2 ⟨v5, v6, v7, v8, v9, v10, v11, v12, v14, v15, v16, v17, v18, v19, v20, rfl, s⟩
              refine ⟨s _ _ hfz, ?_⟩
              (repeat array_get_dec)
              exact q _
end
end K50

namespace K50
open PySem PySem.Spec PyProof.Rows L2
/-! ### what the top has written, the head -/
theorem all_mk {P : Program} {w : World} {K : PySem.W.Frag} {h : Heap} {mg : Str → Option Value} {fa f1 T1 f2 f3 f4 f5 f6 f7 f8 f9 f10 f11 f12 f13 f14 f15 f16 f17 f18 f19 f20 f21 f22 f23 f24 f25 f26 f27 f28 f29 f30 f31 f32 f33 f34 f35 f36 f37 f38 CD CE CP CU : Addr} (X : K.In h) (G : h.Ns mainGlobals mg) (hfa : mg "law" = some (.ref fa))
    {od1 an1 oD1 od2 an2 od3 an3 od4 an4 od5 an5 od6 an6 od7 an7 od8 an8 od9 an9 od10 an10 od11 an11 od12 an12 od13 an13 od14 an14 od15 an15 od16 an16 od17 an17 od18 an18 od19 an19 od20 an20 od21 an21 od22 an22 od23 an23 od24 an24 od25 an25 od26 an26 od27 an27 od28 an28 od29 an29 od30 an30 od31 an31 od32 an32 od33 an33 od34 an34 od35 an35 od36 an36 od37 an37 od38 an38 : Option Addr} {sl1 sT1 sl2 sl3 sl4 sl5 sl6 sl7 sl8 sl9 sl10 sl11 sl12 sl13 sl14 sl15 sl16 sl17 sl18 sl19 sl20 sl21 sl22 sl23 sl24 sl25 sl26 sl27 sl28 sl29 sl30 sl31 sl32 sl33 sl34 sl35 sl36 sl37 sl38 : Array (Option Value)} {oc1 kV1 dc1 pm1 cd1 ct1 oT1 oc2 kV2 dc2 pm2 cd2 ct2 oc3 kV3 dc3 pm3 cd3 ct3 oc4 kV4 dc4 pm4 cd4 ct4 oc5 kV5 dc5 pm5 cd5 ct5 oc6 kV6 dc6 pm6 cd6 ct6 oc7 kV7 dc7 pm7 cd7 ct7 oc8 kV8 dc8 pm8 cd8 ct8 oc9 kV9 dc9 pm9 cd9 ct9 oc10 kV10 dc10 pm10 cd10 ct10 oc11 kV11 dc11 pm11 cd11 ct11 oc12 kV12 dc12 pm12 cd12 ct12 oc13 kV13 dc13 pm13 cd13 ct13 oc14 kV14 dc14 pm14 cd14 ct14 oc15 kV15 dc15 pm15 cd15 ct15 oc16 kV16 dc16 pm16 cd16 ct16 oc17 kV17 dc17 pm17 cd17 ct17 oc18 kV18 dc18 pm18 cd18 ct18 oc19 kV19 dc19 pm19 cd19 ct19 oc20 kV20 dc20 pm20 cd20 ct20 oc21 kV21 dc21 pm21 cd21 ct21 oc22 kV22 dc22 pm22 cd22 ct22 oc23 kV23 dc23 pm23 cd23 ct23 oc24 kV24 dc24 pm24 cd24 ct24 oc25 kV25 dc25 pm25 cd25 ct25 oc26 kV26 dc26 pm26 cd26 ct26 oc27 kV27 dc27 pm27 cd27 ct27 oc28 kV28 dc28 pm28 cd28 ct28 oc29 kV29 dc29 pm29 cd29 ct29 oc30 kV30 dc30 pm30 cd30 ct30 oc31 kV31 dc31 pm31 cd31 ct31 oc32 kV32 dc32 pm32 cd32 ct32 oc33 kV33 dc33 pm33 cd33 ct33 oc34 kV34 dc34 pm34 cd34 ct34 oc35 kV35 dc35 pm35 cd35 ct35 oc36 kV36 dc36 pm36 cd36 ct36 oc37 kV37 dc37 pm37 cd37 ct37 oc38 kV38 dc38 pm38 cd38 ct38 : Value}
    {t1_0 t1_1 t_SPOILT : Tok}
    {nT1 : Nat}
    (a1 : PySem.W.nsIn K mainGlobals "is_number" = some (some (.ref f1)))
    (a22 : PySem.W.nsIn K mainGlobals "applied" = some (some (.ref f22)))
    (a23 : PySem.W.nsIn K mainGlobals "checked_tears" = some (some (.ref f23)))
    (a24 : PySem.W.nsIn K mainGlobals "nothing_lost" = some (some (.ref f24)))
    (a25 : PySem.W.nsIn K mainGlobals "all_lost" = some (some (.ref f25)))
    (a26 : PySem.W.nsIn K mainGlobals "alike" = some (some (.ref f26)))
    (a27 : PySem.W.nsIn K mainGlobals "_law_same" = some (some (.ref f27)))
    (a28 : PySem.W.nsIn K mainGlobals "_law_pool" = some (some (.ref f28)))
    (a29 : PySem.W.nsIn K mainGlobals "_law_draw" = some (some (.ref f29)))
    (a30 : PySem.W.nsIn K mainGlobals "_law_pick" = some (some (.ref f30)))
    (a31 : PySem.W.nsIn K mainGlobals "_law_refusal" = some (some (.ref f31)))
    (a32 : PySem.W.nsIn K mainGlobals "_law_names_after" = some (some (.ref f32)))
    (a33 : PySem.W.nsIn K mainGlobals "_law_do" = some (some (.ref f33)))
    (a34 : PySem.W.nsIn K mainGlobals "_law_plain" = some (some (.ref f34)))
    (a35 : PySem.W.nsIn K mainGlobals "_law_stands" = some (some (.ref f35)))
    (a36 : PySem.W.nsIn K mainGlobals "_law_found_right" = some (some (.ref f36)))
    (a37 : PySem.W.nsIn K mainGlobals "_law_cut" = some (some (.ref f37)))
    (a38 : PySem.W.nsIn K mainGlobals "law" = some (some (.ref f38)))
    (g_CD : PySem.W.nsIn K mainGlobals "Disk" = some (some (.ref CD)))
    (aE : PySem.W.nsIn K mainGlobals "DeskError" = some (some (.ref CE)))
    (a_CP : PySem.W.nsIn K mainGlobals "InvalidPaper" = some (some (.ref CP)))
    (a_CU : PySem.W.nsIn K mainGlobals "UnknownName" = some (some (.ref CU)))
    (z_len : PySem.W.nsIn K mainGlobals "len" = some none)
    (z_isinstance : PySem.W.nsIn K mainGlobals "isinstance" = some none)
    (z_str : PySem.W.nsIn K mainGlobals "str" = some none)
    (z_int : PySem.W.nsIn K mainGlobals "int" = some none)
    (z_list : PySem.W.nsIn K mainGlobals "list" = some none)
    (z_tuple : PySem.W.nsIn K mainGlobals "tuple" = some none)
    (z_bool : PySem.W.nsIn K mainGlobals "bool" = some none)
    (z_range : PySem.W.nsIn K mainGlobals "range" = some none)
    (z_abs : PySem.W.nsIn K mainGlobals "abs" = some none)
    (z_sorted : PySem.W.nsIn K mainGlobals "sorted" = some none)
    (z_dict : PySem.W.nsIn K mainGlobals "dict" = some none)
    (z_ValueError : PySem.W.nsIn K mainGlobals "ValueError" = some none)
    (n_SPOILT : PySem.W.nsIn K mainGlobals "SPOILT" = some (some (.str (Str.ofString "?") t_SPOILT)))
    (ia_CD : PySem.W.findIn K (.ref CD) "__class__" = some (some (.builtin "object.__class__")))
    (in_CD : PySem.W.specialIn K (.builtin "object.__class__") "__get__" = some (some (.builtin "getset_descriptor.__get__")))
    (it_CD : PySem.W.takesIn K (.builtin "object.__class__") = some true)
    (im_CD : PySem.W.mroIn K CD (.type "object") = some true)
    (is_CD : PySem.W.kitOne K (.ref CD) (.type "str") = some false)
    (l1 : K.lookup f1 = some ⟨oc1, od1, .func (PySem.W.fnOf "is_number" "is_number" (defArgs s_is_number) (defBody s_is_number) (defScope s_is_number) (.ref T1) kV1 dc1 pm1 an1 cd1 ct1), sl1⟩)
    (c1 : PySem.W.codeIn K cd1 "is_number" = true)
    (k1 : PySem.W.keepIn K (.ref f1) = true)
    (d1 : K.lookup T1 = some ⟨oT1, oD1, .seq #[.int 0 t1_0, .int 1000000 t1_1] nT1, sT1⟩)
    (a2 : PySem.W.findIn K (.ref CD) "__init__" = some (some (.ref f2)))
    (i2 : PySem.W.isFn K (.ref f2) = true)
    (l2 : K.lookup f2 = some ⟨oc2, od2, .func (PySem.W.fnOf "__init__" "Disk.__init__" (defArgs s_Disk___init__) (defBody s_Disk___init__) (defScope s_Disk___init__) .none kV2 dc2 pm2 an2 cd2 ct2), sl2⟩)
    (c2 : PySem.W.codeIn K cd2 "Disk.__init__" = true)
    (k2 : PySem.W.keepIn K (.ref f2) = true)
    (a3 : PySem.W.findIn K (.ref CD) "names" = some (some (.ref f3)))
    (i3 : PySem.W.isFn K (.ref f3) = true)
    (l3 : K.lookup f3 = some ⟨oc3, od3, .func (PySem.W.fnOf "names" "Disk.names" (defArgs s_Disk_names) (defBody s_Disk_names) (defScope s_Disk_names) .none kV3 dc3 pm3 an3 cd3 ct3), sl3⟩)
    (c3 : PySem.W.codeIn K cd3 "Disk.names" = true)
    (k3 : PySem.W.keepIn K (.ref f3) = true)
    (a4 : PySem.W.findIn K (.ref CD) "has" = some (some (.ref f4)))
    (i4 : PySem.W.isFn K (.ref f4) = true)
    (l4 : K.lookup f4 = some ⟨oc4, od4, .func (PySem.W.fnOf "has" "Disk.has" (defArgs s_Disk_has) (defBody s_Disk_has) (defScope s_Disk_has) .none kV4 dc4 pm4 an4 cd4 ct4), sl4⟩)
    (c4 : PySem.W.codeIn K cd4 "Disk.has" = true)
    (k4 : PySem.W.keepIn K (.ref f4) = true)
    (a5 : PySem.W.findIn K (.ref CD) "_file" = some (some (.ref f5)))
    (i5 : PySem.W.isFn K (.ref f5) = true)
    (l5 : K.lookup f5 = some ⟨oc5, od5, .func (PySem.W.fnOf "_file" "Disk._file" (defArgs s_Disk__file) (defBody s_Disk__file) (defScope s_Disk__file) .none kV5 dc5 pm5 an5 cd5 ct5), sl5⟩)
    (c5 : PySem.W.codeIn K cd5 "Disk._file" = true)
    (k5 : PySem.W.keepIn K (.ref f5) = true)
    (a6 : PySem.W.findIn K (.ref CD) "read" = some (some (.ref f6)))
    (i6 : PySem.W.isFn K (.ref f6) = true)
    (l6 : K.lookup f6 = some ⟨oc6, od6, .func (PySem.W.fnOf "read" "Disk.read" (defArgs s_Disk_read) (defBody s_Disk_read) (defScope s_Disk_read) .none kV6 dc6 pm6 an6 cd6 ct6), sl6⟩)
    (c6 : PySem.W.codeIn K cd6 "Disk.read" = true)
    (k6 : PySem.W.keepIn K (.ref f6) = true)
    (a7 : PySem.W.findIn K (.ref CD) "size" = some (some (.ref f7)))
    (i7 : PySem.W.isFn K (.ref f7) = true)
    (l7 : K.lookup f7 = some ⟨oc7, od7, .func (PySem.W.fnOf "size" "Disk.size" (defArgs s_Disk_size) (defBody s_Disk_size) (defScope s_Disk_size) .none kV7 dc7 pm7 an7 cd7 ct7), sl7⟩)
    (c7 : PySem.W.codeIn K cd7 "Disk.size" = true)
    (k7 : PySem.W.keepIn K (.ref f7) = true)
    (a8 : PySem.W.findIn K (.ref CD) "sure" = some (some (.ref f8)))
    (i8 : PySem.W.isFn K (.ref f8) = true)
    (l8 : K.lookup f8 = some ⟨oc8, od8, .func (PySem.W.fnOf "sure" "Disk.sure" (defArgs s_Disk_sure) (defBody s_Disk_sure) (defScope s_Disk_sure) .none kV8 dc8 pm8 an8 cd8 ct8), sl8⟩)
    (c8 : PySem.W.codeIn K cd8 "Disk.sure" = true)
    (k8 : PySem.W.keepIn K (.ref f8) = true)
    (a9 : PySem.W.findIn K (.ref CD) "make" = some (some (.ref f9)))
    (i9 : PySem.W.isFn K (.ref f9) = true)
    (l9 : K.lookup f9 = some ⟨oc9, od9, .func (PySem.W.fnOf "make" "Disk.make" (defArgs s_Disk_make) (defBody s_Disk_make) (defScope s_Disk_make) .none kV9 dc9 pm9 an9 cd9 ct9), sl9⟩)
    (c9 : PySem.W.codeIn K cd9 "Disk.make" = true)
    (k9 : PySem.W.keepIn K (.ref f9) = true)
    (a10 : PySem.W.findIn K (.ref CD) "_change" = some (some (.ref f10)))
    (i10 : PySem.W.isFn K (.ref f10) = true)
    (l10 : K.lookup f10 = some ⟨oc10, od10, .func (PySem.W.fnOf "_change" "Disk._change" (defArgs s_Disk__change) (defBody s_Disk__change) (defScope s_Disk__change) .none kV10 dc10 pm10 an10 cd10 ct10), sl10⟩)
    (c10 : PySem.W.codeIn K cd10 "Disk._change" = true)
    (k10 : PySem.W.keepIn K (.ref f10) = true)
    (a11 : PySem.W.findIn K (.ref CD) "write" = some (some (.ref f11)))
    (i11 : PySem.W.isFn K (.ref f11) = true)
    (l11 : K.lookup f11 = some ⟨oc11, od11, .func (PySem.W.fnOf "write" "Disk.write" (defArgs s_Disk_write) (defBody s_Disk_write) (defScope s_Disk_write) .none kV11 dc11 pm11 an11 cd11 ct11), sl11⟩)
    (c11 : PySem.W.codeIn K cd11 "Disk.write" = true)
    (k11 : PySem.W.keepIn K (.ref f11) = true)
    (a12 : PySem.W.findIn K (.ref CD) "sync" = some (some (.ref f12)))
    (i12 : PySem.W.isFn K (.ref f12) = true)
    (l12 : K.lookup f12 = some ⟨oc12, od12, .func (PySem.W.fnOf "sync" "Disk.sync" (defArgs s_Disk_sync) (defBody s_Disk_sync) (defScope s_Disk_sync) .none kV12 dc12 pm12 an12 cd12 ct12), sl12⟩)
    (c12 : PySem.W.codeIn K cd12 "Disk.sync" = true)
    (k12 : PySem.W.keepIn K (.ref f12) = true)
    (a13 : PySem.W.findIn K (.ref CD) "sync_names" = some (some (.ref f13)))
    (i13 : PySem.W.isFn K (.ref f13) = true)
    (l13 : K.lookup f13 = some ⟨oc13, od13, .func (PySem.W.fnOf "sync_names" "Disk.sync_names" (defArgs s_Disk_sync_names) (defBody s_Disk_sync_names) (defScope s_Disk_sync_names) .none kV13 dc13 pm13 an13 cd13 ct13), sl13⟩)
    (c13 : PySem.W.codeIn K cd13 "Disk.sync_names" = true)
    (k13 : PySem.W.keepIn K (.ref f13) = true)
    (a14 : PySem.W.findIn K (.ref CD) "move" = some (some (.ref f14)))
    (i14 : PySem.W.isFn K (.ref f14) = true)
    (l14 : K.lookup f14 = some ⟨oc14, od14, .func (PySem.W.fnOf "move" "Disk.move" (defArgs s_Disk_move) (defBody s_Disk_move) (defScope s_Disk_move) .none kV14 dc14 pm14 an14 cd14 ct14), sl14⟩)
    (c14 : PySem.W.codeIn K cd14 "Disk.move" = true)
    (k14 : PySem.W.keepIn K (.ref f14) = true)
    (a15 : PySem.W.findIn K (.ref CD) "remove" = some (some (.ref f15)))
    (i15 : PySem.W.isFn K (.ref f15) = true)
    (l15 : K.lookup f15 = some ⟨oc15, od15, .func (PySem.W.fnOf "remove" "Disk.remove" (defArgs s_Disk_remove) (defBody s_Disk_remove) (defScope s_Disk_remove) .none kV15 dc15 pm15 an15 cd15 ct15), sl15⟩)
    (c15 : PySem.W.codeIn K cd15 "Disk.remove" = true)
    (k15 : PySem.W.keepIn K (.ref f15) = true)
    (a16 : PySem.W.findIn K (.ref CD) "cut" = some (some (.ref f16)))
    (i16 : PySem.W.isFn K (.ref f16) = true)
    (l16 : K.lookup f16 = some ⟨oc16, od16, .func (PySem.W.fnOf "cut" "Disk.cut" (defArgs s_Disk_cut) (defBody s_Disk_cut) (defScope s_Disk_cut) .none kV16 dc16 pm16 an16 cd16 ct16), sl16⟩)
    (c16 : PySem.W.codeIn K cd16 "Disk.cut" = true)
    (k16 : PySem.W.keepIn K (.ref f16) = true)
    (a17 : PySem.W.findIn K (.ref CD) "late_changes" = some (some (.ref f17)))
    (i17 : PySem.W.isFn K (.ref f17) = true)
    (l17 : K.lookup f17 = some ⟨oc17, od17, .func (PySem.W.fnOf "late_changes" "Disk.late_changes" (defArgs s_Disk_late_changes) (defBody s_Disk_late_changes) (defScope s_Disk_late_changes) .none kV17 dc17 pm17 an17 cd17 ct17), sl17⟩)
    (c17 : PySem.W.codeIn K cd17 "Disk.late_changes" = true)
    (k17 : PySem.W.keepIn K (.ref f17) = true)
    (a18 : PySem.W.findIn K (.ref CD) "late_size" = some (some (.ref f18)))
    (i18 : PySem.W.isFn K (.ref f18) = true)
    (l18 : K.lookup f18 = some ⟨oc18, od18, .func (PySem.W.fnOf "late_size" "Disk.late_size" (defArgs s_Disk_late_size) (defBody s_Disk_late_size) (defScope s_Disk_late_size) .none kV18 dc18 pm18 an18 cd18 ct18), sl18⟩)
    (c18 : PySem.W.codeIn K cd18 "Disk.late_size" = true)
    (k18 : PySem.W.keepIn K (.ref f18) = true)
    (a19 : PySem.W.findIn K (.ref CD) "late_files" = some (some (.ref f19)))
    (i19 : PySem.W.isFn K (.ref f19) = true)
    (l19 : K.lookup f19 = some ⟨oc19, od19, .func (PySem.W.fnOf "late_files" "Disk.late_files" (defArgs s_Disk_late_files) (defBody s_Disk_late_files) (defScope s_Disk_late_files) .none kV19 dc19 pm19 an19 cd19 ct19), sl19⟩)
    (c19 : PySem.W.codeIn K cd19 "Disk.late_files" = true)
    (k19 : PySem.W.keepIn K (.ref f19) = true)
    (a20 : PySem.W.findIn K (.ref CD) "copy" = some (some (.ref f20)))
    (i20 : PySem.W.isFn K (.ref f20) = true)
    (l20 : K.lookup f20 = some ⟨oc20, od20, .func (PySem.W.fnOf "copy" "Disk.copy" (defArgs s_Disk_copy) (defBody s_Disk_copy) (defScope s_Disk_copy) .none kV20 dc20 pm20 an20 cd20 ct20), sl20⟩)
    (c20 : PySem.W.codeIn K cd20 "Disk.copy" = true)
    (k20 : PySem.W.keepIn K (.ref f20) = true)
    (a21 : PySem.W.findIn K (.ref CD) "cut_off" = some (some (.ref f21)))
    (i21 : PySem.W.isFn K (.ref f21) = true)
    (l21 : K.lookup f21 = some ⟨oc21, od21, .func (PySem.W.fnOf "cut_off" "Disk.cut_off" (defArgs s_Disk_cut_off) (defBody s_Disk_cut_off) (defScope s_Disk_cut_off) .none kV21 dc21 pm21 an21 cd21 ct21), sl21⟩)
    (c21 : PySem.W.codeIn K cd21 "Disk.cut_off" = true)
    (k21 : PySem.W.keepIn K (.ref f21) = true)
    (l22 : K.lookup f22 = some ⟨oc22, od22, .func (PySem.W.fnOf "applied" "applied" (defArgs s_applied) (defBody s_applied) (defScope s_applied) .none kV22 dc22 pm22 an22 cd22 ct22), sl22⟩)
    (c22 : PySem.W.codeIn K cd22 "applied" = true)
    (k22 : PySem.W.keepIn K (.ref f22) = true)
    (l23 : K.lookup f23 = some ⟨oc23, od23, .func (PySem.W.fnOf "checked_tears" "checked_tears" (defArgs s_checked_tears) (defBody s_checked_tears) (defScope s_checked_tears) .none kV23 dc23 pm23 an23 cd23 ct23), sl23⟩)
    (c23 : PySem.W.codeIn K cd23 "checked_tears" = true)
    (k23 : PySem.W.keepIn K (.ref f23) = true)
    (l24 : K.lookup f24 = some ⟨oc24, od24, .func (PySem.W.fnOf "nothing_lost" "nothing_lost" (defArgs s_nothing_lost) (defBody s_nothing_lost) (defScope s_nothing_lost) .none kV24 dc24 pm24 an24 cd24 ct24), sl24⟩)
    (c24 : PySem.W.codeIn K cd24 "nothing_lost" = true)
    (k24 : PySem.W.keepIn K (.ref f24) = true)
    (l25 : K.lookup f25 = some ⟨oc25, od25, .func (PySem.W.fnOf "all_lost" "all_lost" (defArgs s_all_lost) (defBody s_all_lost) (defScope s_all_lost) .none kV25 dc25 pm25 an25 cd25 ct25), sl25⟩)
    (c25 : PySem.W.codeIn K cd25 "all_lost" = true)
    (k25 : PySem.W.keepIn K (.ref f25) = true)
    (l26 : K.lookup f26 = some ⟨oc26, od26, .func (PySem.W.fnOf "alike" "alike" (defArgs s_alike) (defBody s_alike) (defScope s_alike) .none kV26 dc26 pm26 an26 cd26 ct26), sl26⟩)
    (c26 : PySem.W.codeIn K cd26 "alike" = true)
    (k26 : PySem.W.keepIn K (.ref f26) = true)
    (l27 : K.lookup f27 = some ⟨oc27, od27, .func (PySem.W.fnOf "_law_same" "_law_same" (defArgs s__law_same) (defBody s__law_same) (defScope s__law_same) .none kV27 dc27 pm27 an27 cd27 ct27), sl27⟩)
    (c27 : PySem.W.codeIn K cd27 "_law_same" = true)
    (k27 : PySem.W.keepIn K (.ref f27) = true)
    (l28 : K.lookup f28 = some ⟨oc28, od28, .func (PySem.W.fnOf "_law_pool" "_law_pool" (defArgs s__law_pool) (defBody s__law_pool) (defScope s__law_pool) .none kV28 dc28 pm28 an28 cd28 ct28), sl28⟩)
    (c28 : PySem.W.codeIn K cd28 "_law_pool" = true)
    (k28 : PySem.W.keepIn K (.ref f28) = true)
    (l29 : K.lookup f29 = some ⟨oc29, od29, .func (PySem.W.fnOf "_law_draw" "_law_draw" (defArgs s__law_draw) (defBody s__law_draw) (defScope s__law_draw) .none kV29 dc29 pm29 an29 cd29 ct29), sl29⟩)
    (c29 : PySem.W.codeIn K cd29 "_law_draw" = true)
    (k29 : PySem.W.keepIn K (.ref f29) = true)
    (l30 : K.lookup f30 = some ⟨oc30, od30, .func (PySem.W.fnOf "_law_pick" "_law_pick" (defArgs s__law_pick) (defBody s__law_pick) (defScope s__law_pick) .none kV30 dc30 pm30 an30 cd30 ct30), sl30⟩)
    (c30 : PySem.W.codeIn K cd30 "_law_pick" = true)
    (k30 : PySem.W.keepIn K (.ref f30) = true)
    (l31 : K.lookup f31 = some ⟨oc31, od31, .func (PySem.W.fnOf "_law_refusal" "_law_refusal" (defArgs s__law_refusal) (defBody s__law_refusal) (defScope s__law_refusal) .none kV31 dc31 pm31 an31 cd31 ct31), sl31⟩)
    (c31 : PySem.W.codeIn K cd31 "_law_refusal" = true)
    (k31 : PySem.W.keepIn K (.ref f31) = true)
    (l32 : K.lookup f32 = some ⟨oc32, od32, .func (PySem.W.fnOf "_law_names_after" "_law_names_after" (defArgs s__law_names_after) (defBody s__law_names_after) (defScope s__law_names_after) .none kV32 dc32 pm32 an32 cd32 ct32), sl32⟩)
    (c32 : PySem.W.codeIn K cd32 "_law_names_after" = true)
    (k32 : PySem.W.keepIn K (.ref f32) = true)
    (l33 : K.lookup f33 = some ⟨oc33, od33, .func (PySem.W.fnOf "_law_do" "_law_do" (defArgs s__law_do) (defBody s__law_do) (defScope s__law_do) .none kV33 dc33 pm33 an33 cd33 ct33), sl33⟩)
    (c33 : PySem.W.codeIn K cd33 "_law_do" = true)
    (k33 : PySem.W.keepIn K (.ref f33) = true)
    (l34 : K.lookup f34 = some ⟨oc34, od34, .func (PySem.W.fnOf "_law_plain" "_law_plain" (defArgs s__law_plain) (defBody s__law_plain) (defScope s__law_plain) .none kV34 dc34 pm34 an34 cd34 ct34), sl34⟩)
    (c34 : PySem.W.codeIn K cd34 "_law_plain" = true)
    (k34 : PySem.W.keepIn K (.ref f34) = true)
    (l35 : K.lookup f35 = some ⟨oc35, od35, .func (PySem.W.fnOf "_law_stands" "_law_stands" (defArgs s__law_stands) (defBody s__law_stands) (defScope s__law_stands) .none kV35 dc35 pm35 an35 cd35 ct35), sl35⟩)
    (c35 : PySem.W.codeIn K cd35 "_law_stands" = true)
    (k35 : PySem.W.keepIn K (.ref f35) = true)
    (l36 : K.lookup f36 = some ⟨oc36, od36, .func (PySem.W.fnOf "_law_found_right" "_law_found_right" (defArgs s__law_found_right) (defBody s__law_found_right) (defScope s__law_found_right) .none kV36 dc36 pm36 an36 cd36 ct36), sl36⟩)
    (c36 : PySem.W.codeIn K cd36 "_law_found_right" = true)
    (k36 : PySem.W.keepIn K (.ref f36) = true)
    (l37 : K.lookup f37 = some ⟨oc37, od37, .func (PySem.W.fnOf "_law_cut" "_law_cut" (defArgs s__law_cut) (defBody s__law_cut) (defScope s__law_cut) .none kV37 dc37 pm37 an37 cd37 ct37), sl37⟩)
    (c37 : PySem.W.codeIn K cd37 "_law_cut" = true)
    (k37 : PySem.W.keepIn K (.ref f37) = true)
    (l38 : K.lookup f38 = some ⟨oc38, od38, .func (PySem.W.fnOf "law" "law" (defArgs s_law) (defBody s_law) (defScope s_law) .none kV38 dc38 pm38 an38 cd38 ct38), sl38⟩)
    (c38 : PySem.W.codeIn K cd38 "law" = true)
    (k38 : PySem.W.keepIn K (.ref f38) = true)
    (pg_CD : PySem.W.plainGet K CD Str.empty = true)
    (hd_CD : PySem.W.hasDictIn K CD = true)
    (po_CD : PySem.W.plainOver K CD = true)
    (sa_CD : PySem.W.findIn K (.ref CD) "__setattr__" = some (some (.builtin "object.__setattr__")))
    (mk_CD : PySem.W.makesIn K CD = true)
    (kc_CD : PySem.W.keepIn K (.ref CD) = true)
    (n_CD_kept : PySem.W.findIn K (.ref CD) "_kept" = some none)
    (n_CD_late : PySem.W.findIn K (.ref CD) "_late" = some none)
    (n_CD_names : PySem.W.findIn K (.ref CD) "_names" = some none)
    (n_CD_sure : PySem.W.findIn K (.ref CD) "_sure" = some none)
    (n_CD_changes : PySem.W.findIn K (.ref CD) "_changes" = some none)
    (n_CD_next : PySem.W.findIn K (.ref CD) "_next" = some none)
    (bE : PySem.W.subIn K (.ref CE) (.type "BaseException") = some true)
    (tE : PySem.W.typeIn K (.ref CE) = some (.type "type"))
    (hE : PySem.W.hasDictIn K CE = true)
    (x_CP : PySem.W.excIn K CP [.type "ValueError", .type "Exception", .type "BaseException", .type "object"] "ValueError.__new__" = true)
    (k_CP : PySem.W.keepIn K (.ref CP) = true)
    (b_CP : PySem.W.subIn K (.ref CP) (.type "BaseException") = some true)
    (t_CP : PySem.W.typeIn K (.ref CP) = some (.type "type"))
    (sD_CP : PySem.W.subIn K (.ref CP) (.ref CE) = some true)
    (sV_CP : PySem.W.subIn K (.ref CP) (.type "ValueError") = some true)
    (eg_CP : PySem.W.findIn K (.ref CP) "__getattribute__" = some (some (.builtin "BaseException.__getattribute__")))
    (ek_CP : PySem.W.findIn K (.ref CP) "__getattr__" = some none)
    (ed_CP : PySem.W.hasDictIn K CP = true)
    (ea_CP : PySem.W.findIn K (.ref CP) "__class__" = some (some (.builtin "object.__class__")))
    (en_CP : PySem.W.specialIn K (.builtin "object.__class__") "__get__" = some (some (.builtin "getset_descriptor.__get__")))
    (et_CP : PySem.W.takesIn K (.builtin "object.__class__") = some true)
    (em_CP : PySem.W.mroIn K CP (.type "object") = some true)
    (x_CU : PySem.W.excIn K CU [.type "ValueError", .type "Exception", .type "BaseException", .type "object"] "ValueError.__new__" = true)
    (k_CU : PySem.W.keepIn K (.ref CU) = true)
    (b_CU : PySem.W.subIn K (.ref CU) (.type "BaseException") = some true)
    (t_CU : PySem.W.typeIn K (.ref CU) = some (.type "type"))
    (sD_CU : PySem.W.subIn K (.ref CU) (.ref CE) = some true)
    (sV_CU : PySem.W.subIn K (.ref CU) (.type "ValueError") = some true)
    (eg_CU : PySem.W.findIn K (.ref CU) "__getattribute__" = some (some (.builtin "BaseException.__getattribute__")))
    (ek_CU : PySem.W.findIn K (.ref CU) "__getattr__" = some none)
    (ed_CU : PySem.W.hasDictIn K CU = true)
    (ea_CU : PySem.W.findIn K (.ref CU) "__class__" = some (some (.builtin "object.__class__")))
    (en_CU : PySem.W.specialIn K (.builtin "object.__class__") "__get__" = some (some (.builtin "getset_descriptor.__get__")))
    (et_CU : PySem.W.takesIn K (.builtin "object.__class__") = some true)
    (em_CU : PySem.W.mroIn K CU (.type "object") = some true)
    (p_notUP : PySem.W.kitOne K (.ref CP) (.ref CU) = some false)
    (p_notPU : PySem.W.kitOne K (.ref CU) (.ref CP) = some false)
    : ∃ fd : FuncData, (∀ (s : Shared) (v : Value), BindsTo s fd ⟨[v], []⟩ [("script", v)]) ∧ ∀ base : Heap, K.In base → base.Ns mainGlobals mg → FnOk P w K mg base CX0 6 fa fd ["script"] (spLaw K) := by
  have e := hfa.symm.trans (PySem.W.mg_of X G a38)
  cases e
  have T : Blt mg := ⟨PySem.W.mg_none_of X G z_len, PySem.W.mg_none_of X G z_isinstance, PySem.W.mg_none_of X G z_str, PySem.W.mg_none_of X G z_int, PySem.W.mg_none_of X G z_list, PySem.W.mg_none_of X G z_tuple, PySem.W.mg_none_of X G z_bool, PySem.W.mg_none_of X G z_range, PySem.W.mg_none_of X G z_abs, PySem.W.mg_none_of X G z_sorted, PySem.W.mg_none_of X G z_dict, PySem.W.mg_none_of X G z_ValueError⟩
  have F1 : FunD K "is_number" "is_number" (defArgs s_is_number) (defBody s_is_number) (defScope s_is_number) [.int 0, .int 1000000] [] f1 (PySem.W.fnOf "is_number" "is_number" (defArgs s_is_number) (defBody s_is_number) (defScope s_is_number) (.ref T1) kV1 dc1 pm1 an1 cd1 ct1) := ⟨⟨_, _, _, _, _, _, _, _, _, _, rfl, l1, c1, .inr ⟨by simp, _, _, [.int 0 t1_0, .int 1000000 t1_1], _, rfl, d1, rfl, .cons ⟨_, rfl⟩ (.cons ⟨_, rfl⟩ (.nil))⟩, .inl rfl⟩, k1⟩
  have b1 : Binds K (PySem.W.fnOf "is_number" "is_number" (defArgs s_is_number) (defBody s_is_number) (defScope s_is_number) (.ref T1) kV1 dc1 pm1 an1 cd1 ct1) ["value", "least", "most"] [] := by
    obtain ⟨ds, v, b⟩ := F1.binds1 (ps := ["value", "least", "most"]) 3 2 (by simp) rfl fun T kV doc pm an cdv ct us its hl hi => match us, its, hl, hi with | [_, _, _], [_, _], _, _ => ⟨_, rfl, rfl⟩
    cases v
    exact b
  have F2 := fun_mk (st := s_Disk___init__) l2 c2 k2
  have b2 := F2.binds (ps := ["self"]) fun _ _ _ _ _ _ us hl => match us, hl with | [_], _ => rfl
  have F3 := fun_mk (st := s_Disk_names) l3 c3 k3
  have b3 := F3.binds (ps := ["self"]) fun _ _ _ _ _ _ us hl => match us, hl with | [_], _ => rfl
  have F4 := fun_mk (st := s_Disk_has) l4 c4 k4
  have b4 := F4.binds (ps := ["self", "name"]) fun _ _ _ _ _ _ us hl => match us, hl with | [_, _], _ => rfl
  have F5 := fun_mk (st := s_Disk__file) l5 c5 k5
  have b5 := F5.binds (ps := ["self", "name"]) fun _ _ _ _ _ _ us hl => match us, hl with | [_, _], _ => rfl
  have F6 := fun_mk (st := s_Disk_read) l6 c6 k6
  have b6 := F6.binds (ps := ["self", "name"]) fun _ _ _ _ _ _ us hl => match us, hl with | [_, _], _ => rfl
  have F7 := fun_mk (st := s_Disk_size) l7 c7 k7
  have b7 := F7.binds (ps := ["self", "name"]) fun _ _ _ _ _ _ us hl => match us, hl with | [_, _], _ => rfl
  have F8 := fun_mk (st := s_Disk_sure) l8 c8 k8
  have b8 := F8.binds (ps := ["self", "name"]) fun _ _ _ _ _ _ us hl => match us, hl with | [_, _], _ => rfl
  have F9 := fun_mk (st := s_Disk_make) l9 c9 k9
  have b9 := F9.binds (ps := ["self", "name"]) fun _ _ _ _ _ _ us hl => match us, hl with | [_, _], _ => rfl
  have F10 := fun_mk (st := s_Disk__change) l10 c10 k10
  have b10 := F10.binds (ps := ["self", "row"]) fun _ _ _ _ _ _ us hl => match us, hl with | [_, _], _ => rfl
  have F11 := fun_mk (st := s_Disk_write) l11 c11 k11
  have b11 := F11.binds (ps := ["self", "name", "text"]) fun _ _ _ _ _ _ us hl => match us, hl with | [_, _, _], _ => rfl
  have F12 := fun_mk (st := s_Disk_sync) l12 c12 k12
  have b12 := F12.binds (ps := ["self", "name"]) fun _ _ _ _ _ _ us hl => match us, hl with | [_, _], _ => rfl
  have F13 := fun_mk (st := s_Disk_sync_names) l13 c13 k13
  have b13 := F13.binds (ps := ["self"]) fun _ _ _ _ _ _ us hl => match us, hl with | [_], _ => rfl
  have F14 := fun_mk (st := s_Disk_move) l14 c14 k14
  have b14 := F14.binds (ps := ["self", "one", "other"]) fun _ _ _ _ _ _ us hl => match us, hl with | [_, _, _], _ => rfl
  have F15 := fun_mk (st := s_Disk_remove) l15 c15 k15
  have b15 := F15.binds (ps := ["self", "name"]) fun _ _ _ _ _ _ us hl => match us, hl with | [_, _], _ => rfl
  have F16 := fun_mk (st := s_Disk_cut) l16 c16 k16
  have b16 := F16.binds (ps := ["self", "name", "size"]) fun _ _ _ _ _ _ us hl => match us, hl with | [_, _, _], _ => rfl
  have F17 := fun_mk (st := s_Disk_late_changes) l17 c17 k17
  have b17 := F17.binds (ps := ["self"]) fun _ _ _ _ _ _ us hl => match us, hl with | [_], _ => rfl
  have F18 := fun_mk (st := s_Disk_late_size) l18 c18 k18
  have b18 := F18.binds (ps := ["self", "name"]) fun _ _ _ _ _ _ us hl => match us, hl with | [_, _], _ => rfl
  have F19 := fun_mk (st := s_Disk_late_files) l19 c19 k19
  have b19 := F19.binds (ps := ["self"]) fun _ _ _ _ _ _ us hl => match us, hl with | [_], _ => rfl
  have F20 := fun_mk (st := s_Disk_copy) l20 c20 k20
  have b20 := F20.binds (ps := ["self"]) fun _ _ _ _ _ _ us hl => match us, hl with | [_], _ => rfl
  have F21 := fun_mk (st := s_Disk_cut_off) l21 c21 k21
  have b21 := F21.binds (ps := ["self", "changes", "tears"]) fun _ _ _ _ _ _ us hl => match us, hl with | [_, _, _], _ => rfl
  have F22 := fun_mk (st := s_applied) l22 c22 k22
  have b22 := F22.binds (ps := ["names", "changes"]) fun _ _ _ _ _ _ us hl => match us, hl with | [_, _], _ => rfl
  have F23 := fun_mk (st := s_checked_tears) l23 c23 k23
  have b23 := F23.binds (ps := ["disk", "changes", "tears"]) fun _ _ _ _ _ _ us hl => match us, hl with | [_, _, _], _ => rfl
  have F24 := fun_mk (st := s_nothing_lost) l24 c24 k24
  have b24 := F24.binds (ps := ["disk"]) fun _ _ _ _ _ _ us hl => match us, hl with | [_], _ => rfl
  have F25 := fun_mk (st := s_all_lost) l25 c25 k25
  have b25 := F25.binds (ps := ["disk"]) fun _ _ _ _ _ _ us hl => match us, hl with | [_], _ => rfl
  have F26 := fun_mk (st := s_alike) l26 c26 k26
  have b26 := F26.binds (ps := ["one", "other"]) fun _ _ _ _ _ _ us hl => match us, hl with | [_, _], _ => rfl
  have F27 := fun_mk (st := s__law_same) l27 c27 k27
  have b27 := F27.binds (ps := ["actual", "due"]) fun _ _ _ _ _ _ us hl => match us, hl with | [_, _], _ => rfl
  have F28 := fun_mk (st := s__law_pool) l28 c28 k28
  have b28 := F28.binds (ps := ["script"]) fun _ _ _ _ _ _ us hl => match us, hl with | [_], _ => rfl
  have F29 := fun_mk (st := s__law_draw) l29 c29 k29
  have b29 := F29.binds (ps := ["pool", "many"]) fun _ _ _ _ _ _ us hl => match us, hl with | [_, _], _ => rfl
  have F30 := fun_mk (st := s__law_pick) l30 c30 k30
  have b30 := F30.binds (ps := ["pool", "rows"]) fun _ _ _ _ _ _ us hl => match us, hl with | [_, _], _ => rfl
  have F31 := fun_mk (st := s__law_refusal) l31 c31 k31
  have b31 := F31.binds (ps := ["problem"]) fun _ _ _ _ _ _ us hl => match us, hl with | [_], _ => rfl
  have F32 := fun_mk (st := s__law_names_after) l32 c32 k32
  have b32 := F32.binds (ps := ["names", "changes"]) fun _ _ _ _ _ _ us hl => match us, hl with | [_, _], _ => rfl
  have F33 := fun_mk (st := s__law_do) l33 c33 k33
  have b33 := F33.binds (ps := ["disk", "row"]) fun _ _ _ _ _ _ us hl => match us, hl with | [_, _], _ => rfl
  have F34 := fun_mk (st := s__law_plain) l34 c34 k34
  have b34 := F34.binds (ps := ["here", "row"]) fun _ _ _ _ _ _ us hl => match us, hl with | [_, _], _ => rfl
  have F35 := fun_mk (st := s__law_stands) l35 c35 k35
  have b35 := F35.binds (ps := ["disk", "here"]) fun _ _ _ _ _ _ us hl => match us, hl with | [_, _], _ => rfl
  have F36 := fun_mk (st := s__law_found_right) l36 c36 k36
  have b36 := F36.binds (ps := ["found", "here", "changes", "tears"]) fun _ _ _ _ _ _ us hl => match us, hl with | [_, _, _, _], _ => rfl
  have F37 := fun_mk (st := s__law_cut) l37 c37 k37
  have b37 := F37.binds (ps := ["disk", "changes", "tears"]) fun _ _ _ _ _ _ us hl => match us, hl with | [_, _, _], _ => rfl
  have F38 := fun_mk (st := s_law) l38 c38 k38
  have b38 := F38.binds (ps := ["script"]) fun _ _ _ _ _ _ us hl => match us, hl with | [_], _ => rfl
  have X_CP : ErrT K mg "InvalidPaper" CP := ⟨PySem.W.mg_of X G a_CP, x_CP, k_CP, b_CP, t_CP⟩
  have kV_CP : PySem.W.kitOne K (.ref CP) (.type "ValueError") = some true := by
    show (if (Value.ref CP == Value.type "ValueError") = true then some true else PySem.W.kitCls K (.ref CP) (.type "ValueError")) = some true
    rw [show (Value.ref CP == Value.type "ValueError") = false from rfl, if_neg Bool.false_ne_true]
    show (if PySem.W.kitMeta "ValueError" = true then PySem.W.subIn K (.ref CP) (.type "ValueError") else none) = some true
    rw [if_pos (show PySem.W.kitMeta "ValueError" = true by decide +kernel)]
    exact sV_CP
  have kC_CP : PySem.W.kitOne K (.ref CP) (.ref CP) = some true := if_pos (by simp)
  have Y_CP : CatchT K mg CE CP := ⟨PySem.W.mg_of X G aE, PySem.W.exm_ref bE hE tE sD_CP, ⟨eg_CP, ek_CP, b_CP, ed_CP, ea_CP, en_CP, et_CP, em_CP⟩, kC_CP, kV_CP, PySem.W.mg_none_of X G z_ValueError⟩
  have X_CU : ErrT K mg "UnknownName" CU := ⟨PySem.W.mg_of X G a_CU, x_CU, k_CU, b_CU, t_CU⟩
  have kV_CU : PySem.W.kitOne K (.ref CU) (.type "ValueError") = some true := by
    show (if (Value.ref CU == Value.type "ValueError") = true then some true else PySem.W.kitCls K (.ref CU) (.type "ValueError")) = some true
    rw [show (Value.ref CU == Value.type "ValueError") = false from rfl, if_neg Bool.false_ne_true]
    show (if PySem.W.kitMeta "ValueError" = true then PySem.W.subIn K (.ref CU) (.type "ValueError") else none) = some true
    rw [if_pos (show PySem.W.kitMeta "ValueError" = true by decide +kernel)]
    exact sV_CU
  have kC_CU : PySem.W.kitOne K (.ref CU) (.ref CU) = some true := if_pos (by simp)
  have Y_CU : CatchT K mg CE CU := ⟨PySem.W.mg_of X G aE, PySem.W.exm_ref bE hE tE sD_CU, ⟨eg_CU, ek_CU, b_CU, ed_CU, ea_CU, en_CU, et_CU, em_CU⟩, kC_CU, kV_CU, PySem.W.mg_none_of X G z_ValueError⟩
  let M : Nms K mg := { T := T, a_is_number := f1, d_is_number := PySem.W.fnOf "is_number" "is_number" (defArgs s_is_number) (defBody s_is_number) (defScope s_is_number) (.ref T1) kV1 dc1 pm1 an1 cd1 ct1, b_is_number := b1, k_is_number := k1, F_is_number := ⟨_, F1⟩, g_is_number := PySem.W.mg_of X G a1, a_Disk___init__ := f2, d_Disk___init__ := PySem.W.fnOf "__init__" "Disk.__init__" (defArgs s_Disk___init__) (defBody s_Disk___init__) (defScope s_Disk___init__) .none kV2 dc2 pm2 an2 cd2 ct2, b_Disk___init__ := b2, k_Disk___init__ := k2, F_Disk___init__ := F2, a_Disk_names := f3, d_Disk_names := PySem.W.fnOf "names" "Disk.names" (defArgs s_Disk_names) (defBody s_Disk_names) (defScope s_Disk_names) .none kV3 dc3 pm3 an3 cd3 ct3, b_Disk_names := b3, k_Disk_names := k3, F_Disk_names := F3, a_Disk_has := f4, d_Disk_has := PySem.W.fnOf "has" "Disk.has" (defArgs s_Disk_has) (defBody s_Disk_has) (defScope s_Disk_has) .none kV4 dc4 pm4 an4 cd4 ct4, b_Disk_has := b4, k_Disk_has := k4, F_Disk_has := F4, a_Disk__file := f5, d_Disk__file := PySem.W.fnOf "_file" "Disk._file" (defArgs s_Disk__file) (defBody s_Disk__file) (defScope s_Disk__file) .none kV5 dc5 pm5 an5 cd5 ct5, b_Disk__file := b5, k_Disk__file := k5, F_Disk__file := F5, a_Disk_read := f6, d_Disk_read := PySem.W.fnOf "read" "Disk.read" (defArgs s_Disk_read) (defBody s_Disk_read) (defScope s_Disk_read) .none kV6 dc6 pm6 an6 cd6 ct6, b_Disk_read := b6, k_Disk_read := k6, F_Disk_read := F6, a_Disk_size := f7, d_Disk_size := PySem.W.fnOf "size" "Disk.size" (defArgs s_Disk_size) (defBody s_Disk_size) (defScope s_Disk_size) .none kV7 dc7 pm7 an7 cd7 ct7, b_Disk_size := b7, k_Disk_size := k7, F_Disk_size := F7, a_Disk_sure := f8, d_Disk_sure := PySem.W.fnOf "sure" "Disk.sure" (defArgs s_Disk_sure) (defBody s_Disk_sure) (defScope s_Disk_sure) .none kV8 dc8 pm8 an8 cd8 ct8, b_Disk_sure := b8, k_Disk_sure := k8, F_Disk_sure := F8, a_Disk_make := f9, d_Disk_make := PySem.W.fnOf "make" "Disk.make" (defArgs s_Disk_make) (defBody s_Disk_make) (defScope s_Disk_make) .none kV9 dc9 pm9 an9 cd9 ct9, b_Disk_make := b9, k_Disk_make := k9, F_Disk_make := F9, a_Disk__change := f10, d_Disk__change := PySem.W.fnOf "_change" "Disk._change" (defArgs s_Disk__change) (defBody s_Disk__change) (defScope s_Disk__change) .none kV10 dc10 pm10 an10 cd10 ct10, b_Disk__change := b10, k_Disk__change := k10, F_Disk__change := F10, a_Disk_write := f11, d_Disk_write := PySem.W.fnOf "write" "Disk.write" (defArgs s_Disk_write) (defBody s_Disk_write) (defScope s_Disk_write) .none kV11 dc11 pm11 an11 cd11 ct11, b_Disk_write := b11, k_Disk_write := k11, F_Disk_write := F11, a_Disk_sync := f12, d_Disk_sync := PySem.W.fnOf "sync" "Disk.sync" (defArgs s_Disk_sync) (defBody s_Disk_sync) (defScope s_Disk_sync) .none kV12 dc12 pm12 an12 cd12 ct12, b_Disk_sync := b12, k_Disk_sync := k12, F_Disk_sync := F12, a_Disk_sync_names := f13, d_Disk_sync_names := PySem.W.fnOf "sync_names" "Disk.sync_names" (defArgs s_Disk_sync_names) (defBody s_Disk_sync_names) (defScope s_Disk_sync_names) .none kV13 dc13 pm13 an13 cd13 ct13, b_Disk_sync_names := b13, k_Disk_sync_names := k13, F_Disk_sync_names := F13, a_Disk_move := f14, d_Disk_move := PySem.W.fnOf "move" "Disk.move" (defArgs s_Disk_move) (defBody s_Disk_move) (defScope s_Disk_move) .none kV14 dc14 pm14 an14 cd14 ct14, b_Disk_move := b14, k_Disk_move := k14, F_Disk_move := F14, a_Disk_remove := f15, d_Disk_remove := PySem.W.fnOf "remove" "Disk.remove" (defArgs s_Disk_remove) (defBody s_Disk_remove) (defScope s_Disk_remove) .none kV15 dc15 pm15 an15 cd15 ct15, b_Disk_remove := b15, k_Disk_remove := k15, F_Disk_remove := F15, a_Disk_cut := f16, d_Disk_cut := PySem.W.fnOf "cut" "Disk.cut" (defArgs s_Disk_cut) (defBody s_Disk_cut) (defScope s_Disk_cut) .none kV16 dc16 pm16 an16 cd16 ct16, b_Disk_cut := b16, k_Disk_cut := k16, F_Disk_cut := F16, a_Disk_late_changes := f17, d_Disk_late_changes := PySem.W.fnOf "late_changes" "Disk.late_changes" (defArgs s_Disk_late_changes) (defBody s_Disk_late_changes) (defScope s_Disk_late_changes) .none kV17 dc17 pm17 an17 cd17 ct17, b_Disk_late_changes := b17, k_Disk_late_changes := k17, F_Disk_late_changes := F17, a_Disk_late_size := f18, d_Disk_late_size := PySem.W.fnOf "late_size" "Disk.late_size" (defArgs s_Disk_late_size) (defBody s_Disk_late_size) (defScope s_Disk_late_size) .none kV18 dc18 pm18 an18 cd18 ct18, b_Disk_late_size := b18, k_Disk_late_size := k18, F_Disk_late_size := F18, a_Disk_late_files := f19, d_Disk_late_files := PySem.W.fnOf "late_files" "Disk.late_files" (defArgs s_Disk_late_files) (defBody s_Disk_late_files) (defScope s_Disk_late_files) .none kV19 dc19 pm19 an19 cd19 ct19, b_Disk_late_files := b19, k_Disk_late_files := k19, F_Disk_late_files := F19, a_Disk_copy := f20, d_Disk_copy := PySem.W.fnOf "copy" "Disk.copy" (defArgs s_Disk_copy) (defBody s_Disk_copy) (defScope s_Disk_copy) .none kV20 dc20 pm20 an20 cd20 ct20, b_Disk_copy := b20, k_Disk_copy := k20, F_Disk_copy := F20, a_Disk_cut_off := f21, d_Disk_cut_off := PySem.W.fnOf "cut_off" "Disk.cut_off" (defArgs s_Disk_cut_off) (defBody s_Disk_cut_off) (defScope s_Disk_cut_off) .none kV21 dc21 pm21 an21 cd21 ct21, b_Disk_cut_off := b21, k_Disk_cut_off := k21, F_Disk_cut_off := F21, a_applied := f22, d_applied := PySem.W.fnOf "applied" "applied" (defArgs s_applied) (defBody s_applied) (defScope s_applied) .none kV22 dc22 pm22 an22 cd22 ct22, b_applied := b22, k_applied := k22, F_applied := F22, g_applied := PySem.W.mg_of X G a22, a_checked_tears := f23, d_checked_tears := PySem.W.fnOf "checked_tears" "checked_tears" (defArgs s_checked_tears) (defBody s_checked_tears) (defScope s_checked_tears) .none kV23 dc23 pm23 an23 cd23 ct23, b_checked_tears := b23, k_checked_tears := k23, F_checked_tears := F23, g_checked_tears := PySem.W.mg_of X G a23, a_nothing_lost := f24, d_nothing_lost := PySem.W.fnOf "nothing_lost" "nothing_lost" (defArgs s_nothing_lost) (defBody s_nothing_lost) (defScope s_nothing_lost) .none kV24 dc24 pm24 an24 cd24 ct24, b_nothing_lost := b24, k_nothing_lost := k24, F_nothing_lost := F24, g_nothing_lost := PySem.W.mg_of X G a24, a_all_lost := f25, d_all_lost := PySem.W.fnOf "all_lost" "all_lost" (defArgs s_all_lost) (defBody s_all_lost) (defScope s_all_lost) .none kV25 dc25 pm25 an25 cd25 ct25, b_all_lost := b25, k_all_lost := k25, F_all_lost := F25, g_all_lost := PySem.W.mg_of X G a25, a_alike := f26, d_alike := PySem.W.fnOf "alike" "alike" (defArgs s_alike) (defBody s_alike) (defScope s_alike) .none kV26 dc26 pm26 an26 cd26 ct26, b_alike := b26, k_alike := k26, F_alike := F26, g_alike := PySem.W.mg_of X G a26, a__law_same := f27, d__law_same := PySem.W.fnOf "_law_same" "_law_same" (defArgs s__law_same) (defBody s__law_same) (defScope s__law_same) .none kV27 dc27 pm27 an27 cd27 ct27, b__law_same := b27, k__law_same := k27, F__law_same := F27, g__law_same := PySem.W.mg_of X G a27, a__law_pool := f28, d__law_pool := PySem.W.fnOf "_law_pool" "_law_pool" (defArgs s__law_pool) (defBody s__law_pool) (defScope s__law_pool) .none kV28 dc28 pm28 an28 cd28 ct28, b__law_pool := b28, k__law_pool := k28, F__law_pool := F28, g__law_pool := PySem.W.mg_of X G a28, a__law_draw := f29, d__law_draw := PySem.W.fnOf "_law_draw" "_law_draw" (defArgs s__law_draw) (defBody s__law_draw) (defScope s__law_draw) .none kV29 dc29 pm29 an29 cd29 ct29, b__law_draw := b29, k__law_draw := k29, F__law_draw := F29, g__law_draw := PySem.W.mg_of X G a29, a__law_pick := f30, d__law_pick := PySem.W.fnOf "_law_pick" "_law_pick" (defArgs s__law_pick) (defBody s__law_pick) (defScope s__law_pick) .none kV30 dc30 pm30 an30 cd30 ct30, b__law_pick := b30, k__law_pick := k30, F__law_pick := F30, g__law_pick := PySem.W.mg_of X G a30, a__law_refusal := f31, d__law_refusal := PySem.W.fnOf "_law_refusal" "_law_refusal" (defArgs s__law_refusal) (defBody s__law_refusal) (defScope s__law_refusal) .none kV31 dc31 pm31 an31 cd31 ct31, b__law_refusal := b31, k__law_refusal := k31, F__law_refusal := F31, g__law_refusal := PySem.W.mg_of X G a31, a__law_names_after := f32, d__law_names_after := PySem.W.fnOf "_law_names_after" "_law_names_after" (defArgs s__law_names_after) (defBody s__law_names_after) (defScope s__law_names_after) .none kV32 dc32 pm32 an32 cd32 ct32, b__law_names_after := b32, k__law_names_after := k32, F__law_names_after := F32, g__law_names_after := PySem.W.mg_of X G a32, a__law_do := f33, d__law_do := PySem.W.fnOf "_law_do" "_law_do" (defArgs s__law_do) (defBody s__law_do) (defScope s__law_do) .none kV33 dc33 pm33 an33 cd33 ct33, b__law_do := b33, k__law_do := k33, F__law_do := F33, g__law_do := PySem.W.mg_of X G a33, a__law_plain := f34, d__law_plain := PySem.W.fnOf "_law_plain" "_law_plain" (defArgs s__law_plain) (defBody s__law_plain) (defScope s__law_plain) .none kV34 dc34 pm34 an34 cd34 ct34, b__law_plain := b34, k__law_plain := k34, F__law_plain := F34, g__law_plain := PySem.W.mg_of X G a34, a__law_stands := f35, d__law_stands := PySem.W.fnOf "_law_stands" "_law_stands" (defArgs s__law_stands) (defBody s__law_stands) (defScope s__law_stands) .none kV35 dc35 pm35 an35 cd35 ct35, b__law_stands := b35, k__law_stands := k35, F__law_stands := F35, g__law_stands := PySem.W.mg_of X G a35, a__law_found_right := f36, d__law_found_right := PySem.W.fnOf "_law_found_right" "_law_found_right" (defArgs s__law_found_right) (defBody s__law_found_right) (defScope s__law_found_right) .none kV36 dc36 pm36 an36 cd36 ct36, b__law_found_right := b36, k__law_found_right := k36, F__law_found_right := F36, g__law_found_right := PySem.W.mg_of X G a36, a__law_cut := f37, d__law_cut := PySem.W.fnOf "_law_cut" "_law_cut" (defArgs s__law_cut) (defBody s__law_cut) (defScope s__law_cut) .none kV37 dc37 pm37 an37 cd37 ct37, b__law_cut := b37, k__law_cut := k37, F__law_cut := F37, g__law_cut := PySem.W.mg_of X G a37, a_law := fa, d_law := PySem.W.fnOf "law" "law" (defArgs s_law) (defBody s_law) (defScope s_law) .none kV38 dc38 pm38 an38 cd38 ct38, b_law := b38, k_law := k38, F_law := F38, g_law := PySem.W.mg_of X G a38, CD := CD, gD := PySem.W.mg_of X G g_CD, clD := ⟨pg_CD, hd_CD, po_CD, sa_CD⟩, mkD := ⟨mk_CD, a2, i2, kc_CD⟩, nD_kept := n_CD_kept, nD_late := n_CD_late, nD_names := n_CD_names, nD_sure := n_CD_sure, nD_changes := n_CD_changes, nD_next := n_CD_next, m_Disk_names := ⟨a3, i3, k3⟩, m_Disk_has := ⟨a4, i4, k4⟩, m_Disk__file := ⟨a5, i5, k5⟩, m_Disk_read := ⟨a6, i6, k6⟩, m_Disk_size := ⟨a7, i7, k7⟩, m_Disk_sure := ⟨a8, i8, k8⟩, m_Disk_make := ⟨a9, i9, k9⟩, m_Disk__change := ⟨a10, i10, k10⟩, m_Disk_write := ⟨a11, i11, k11⟩, m_Disk_sync := ⟨a12, i12, k12⟩, m_Disk_sync_names := ⟨a13, i13, k13⟩, m_Disk_move := ⟨a14, i14, k14⟩, m_Disk_remove := ⟨a15, i15, k15⟩, m_Disk_cut := ⟨a16, i16, k16⟩, m_Disk_late_changes := ⟨a17, i17, k17⟩, m_Disk_late_size := ⟨a18, i18, k18⟩, m_Disk_late_files := ⟨a19, i19, k19⟩, m_Disk_copy := ⟨a20, i20, k20⟩, m_Disk_cut_off := ⟨a21, i21, k21⟩, CE := CE, CP := CP, XP := X_CP, YP := Y_CP, CU := CU, XU := X_CU, YU := Y_CU, notUP := p_notUP, notPU := p_notPU, cSP := ⟨_, PySem.W.mg_of X G n_SPOILT⟩, isD := ⟨ia_CD, in_CD, it_CD, im_CD, is_CD⟩ }
  exact ⟨M.d_law, fun s v => .of_eq rfl, fun base _ _ => ok_law M⟩
theorem walk {l : PySem.W.OpenLaw} {q : Program} {loose : List Str} {XP : (Str → Option Value) → Heap → Prop} {YP : World → Heap → Prop} {d : DefRec} {K : Params → PySem.W.Frag} (hn : l.most = some 63) (hdf : d.params.defaults = [])
    (hY : ∀ (w : World) (h : Heap), YP w h → (K w.params).In h)
    (F : ∀ (w : World) (mg : Str → Option Value) (fa : Addr) (h : Heap), (K w.params).In h → h.Ns mainGlobals mg → mg d.name = some (.ref fa) →
      ∃ fd : FuncData, (∀ (s : Shared) (u : Value), BindsTo s fd ⟨[u], []⟩ [("script", u)]) ∧ ∀ base : Heap, (K w.params).In base → base.Ns mainGlobals mg → FnOk l.prog w (K w.params) mg base CX0 6 fa fd ["script"] (spLaw (K w.params))) :
    PySem.W.WalkO q loose XP YP l.row.toRowW d [] (fun f vs => PySem.call f vs) :=
  L2.walk_of (n := 63) (k := 6) (x := "script") (CX := fun _ => CX0) (sp := fun w => spLaw (K w.params)) hn (by decide) hdf ⟨rfl, by decide, by decide⟩ hY F (fun _ _ a ns hl _ hS => ⟨a, ns, rfl, hS, hl, fun _ => rfl⟩) fun _ _ _ _ _ z => z
end K50


open PySem PySem.W PyProof.Rows in
set_option maxRecDepth 100000 in
set_option maxHeartbeats 0 in
theorem PySem.Challenge.cw_desksagree_k50_whole_disks_that_are_cut_holds : PySem.Challenge.rw_desksagree_k50_whole_disks_that_are_cut.Holds := by
  w_on; o_law; k_head; (case hw => w_witness2)
  k_fill
  refine K50.walk (l := PySem.Challenge.rw_desksagree_k50_whole_disks_that_are_cut) rfl rfl (fun w h Y => PySem.W.kIn_of Y) ?F
  case F =>
    intro w mg fa h KX G hmg
    refine' K50.all_mk KX G hmg ?a1 ?a22 ?a23 ?a24 ?a25 ?a26 ?a27 ?a28 ?a29 ?a30 ?a31 ?a32 ?a33 ?a34 ?a35 ?a36 ?a37 ?a38 ?g_CD ?aE ?a_CP ?a_CU ?z_len ?z_isinstance ?z_str ?z_int ?z_list ?z_tuple ?z_bool ?z_range ?z_abs ?z_sorted ?z_dict ?z_ValueError ?n_SPOILT ?ia_CD ?in_CD ?it_CD ?im_CD ?is_CD ?l1 ?c1 ?k1 ?d1 ?a2 ?i2 ?l2 ?c2 ?k2 ?a3 ?i3 ?l3 ?c3 ?k3 ?a4 ?i4 ?l4 ?c4 ?k4 ?a5 ?i5 ?l5 ?c5 ?k5 ?a6 ?i6 ?l6 ?c6 ?k6 ?a7 ?i7 ?l7 ?c7 ?k7 ?a8 ?i8 ?l8 ?c8 ?k8 ?a9 ?i9 ?l9 ?c9 ?k9 ?a10 ?i10 ?l10 ?c10 ?k10 ?a11 ?i11 ?l11 ?c11 ?k11 ?a12 ?i12 ?l12 ?c12 ?k12 ?a13 ?i13 ?l13 ?c13 ?k13 ?a14 ?i14 ?l14 ?c14 ?k14 ?a15 ?i15 ?l15 ?c15 ?k15 ?a16 ?i16 ?l16 ?c16 ?k16 ?a17 ?i17 ?l17 ?c17 ?k17 ?a18 ?i18 ?l18 ?c18 ?k18 ?a19 ?i19 ?l19 ?c19 ?k19 ?a20 ?i20 ?l20 ?c20 ?k20 ?a21 ?i21 ?l21 ?c21 ?k21 ?l22 ?c22 ?k22 ?l23 ?c23 ?k23 ?l24 ?c24 ?k24 ?l25 ?c25 ?k25 ?l26 ?c26 ?k26 ?l27 ?c27 ?k27 ?l28 ?c28 ?k28 ?l29 ?c29 ?k29 ?l30 ?c30 ?k30 ?l31 ?c31 ?k31 ?l32 ?c32 ?k32 ?l33 ?c33 ?k33 ?l34 ?c34 ?k34 ?l35 ?c35 ?k35 ?l36 ?c36 ?k36 ?l37 ?c37 ?k37 ?l38 ?c38 ?k38 ?pg_CD ?hd_CD ?po_CD ?sa_CD ?mk_CD ?kc_CD ?n_CD_kept ?n_CD_late ?n_CD_names ?n_CD_sure ?n_CD_changes ?n_CD_next ?bE ?tE ?hE ?x_CP ?k_CP ?b_CP ?t_CP ?sD_CP ?sV_CP ?eg_CP ?ek_CP ?ed_CP ?ea_CP ?en_CP ?et_CP ?em_CP ?x_CU ?k_CU ?b_CU ?t_CU ?sD_CU ?sV_CU ?eg_CU ?ek_CU ?ed_CU ?ea_CU ?en_CU ?et_CU ?em_CU ?p_notUP ?p_notPU
    (case a1 => k_is)
    (case a22 => k_is)
    (case a23 => k_is)
    (case a24 => k_is)
    (case a25 => k_is)
    (case a26 => k_is)
    (case a27 => k_is)
    (case a28 => k_is)
    (case a29 => k_is)
    (case a30 => k_is)
    (case a31 => k_is)
    (case a32 => k_is)
    (case a33 => k_is)
    (case a34 => k_is)
    (case a35 => k_is)
    (case a36 => k_is)
    (case a37 => k_is)
    (case a38 => k_is)
    (case g_CD => k_is)
    (case aE => k_is)
    (case a_CP => k_is)
    (case a_CU => k_is)
    (case z_len => k_is)
    (case z_isinstance => k_is)
    (case z_str => k_is)
    (case z_int => k_is)
    (case z_list => k_is)
    (case z_tuple => k_is)
    (case z_bool => k_is)
    (case z_range => k_is)
    (case z_abs => k_is)
    (case z_sorted => k_is)
    (case z_dict => k_is)
    (case z_ValueError => k_is)
    (case n_SPOILT => k_is)
    (case ia_CD => k_is)
    (case in_CD => k_is)
    (case it_CD => k_is)
    (case im_CD => k_is)
    (case is_CD => kit_is)
    (case l1 => k_is)
    (case c1 => k_is)
    (case k1 => k_is)
    (case d1 => k_is)
    (case a2 => k_is)
    (case i2 => k_is)
    (case l2 => k_is)
    (case c2 => k_is)
    (case k2 => k_is)
    (case a3 => k_is)
    (case i3 => k_is)
    (case l3 => k_is)
    (case c3 => k_is)
    (case k3 => k_is)
    (case a4 => k_is)
    (case i4 => k_is)
    (case l4 => k_is)
    (case c4 => k_is)
    (case k4 => k_is)
    (case a5 => k_is)
    (case i5 => k_is)
    (case l5 => k_is)
    (case c5 => k_is)
    (case k5 => k_is)
    (case a6 => k_is)
    (case i6 => k_is)
    (case l6 => k_is)
    (case c6 => k_is)
    (case k6 => k_is)
    (case a7 => k_is)
    (case i7 => k_is)
    (case l7 => k_is)
    (case c7 => k_is)
    (case k7 => k_is)
    (case a8 => k_is)
    (case i8 => k_is)
    (case l8 => k_is)
    (case c8 => k_is)
    (case k8 => k_is)
    (case a9 => k_is)
    (case i9 => k_is)
    (case l9 => k_is)
    (case c9 => k_is)
    (case k9 => k_is)
    (case a10 => k_is)
    (case i10 => k_is)
    (case l10 => k_is)
    (case c10 => k_is)
    (case k10 => k_is)
    (case a11 => k_is)
    (case i11 => k_is)
    (case l11 => k_is)
    (case c11 => k_is)
    (case k11 => k_is)
    (case a12 => k_is)
    (case i12 => k_is)
    (case l12 => k_is)
    (case c12 => k_is)
    (case k12 => k_is)
    (case a13 => k_is)
    (case i13 => k_is)
    (case l13 => k_is)
    (case c13 => k_is)
    (case k13 => k_is)
    (case a14 => k_is)
    (case i14 => k_is)
    (case l14 => k_is)
    (case c14 => k_is)
    (case k14 => k_is)
    (case a15 => k_is)
    (case i15 => k_is)
    (case l15 => k_is)
    (case c15 => k_is)
    (case k15 => k_is)
    (case a16 => k_is)
    (case i16 => k_is)
    (case l16 => k_is)
    (case c16 => k_is)
    (case k16 => k_is)
    (case a17 => k_is)
    (case i17 => k_is)
    (case l17 => k_is)
    (case c17 => k_is)
    (case k17 => k_is)
    (case a18 => k_is)
    (case i18 => k_is)
    (case l18 => k_is)
    (case c18 => k_is)
    (case k18 => k_is)
    (case a19 => k_is)
    (case i19 => k_is)
    (case l19 => k_is)
    (case c19 => k_is)
    (case k19 => k_is)
    (case a20 => k_is)
    (case i20 => k_is)
    (case l20 => k_is)
    (case c20 => k_is)
    (case k20 => k_is)
    (case a21 => k_is)
    (case i21 => k_is)
    (case l21 => k_is)
    (case c21 => k_is)
    (case k21 => k_is)
    (case l22 => k_is)
    (case c22 => k_is)
    (case k22 => k_is)
    (case l23 => k_is)
    (case c23 => k_is)
    (case k23 => k_is)
    (case l24 => k_is)
    (case c24 => k_is)
    (case k24 => k_is)
    (case l25 => k_is)
    (case c25 => k_is)
    (case k25 => k_is)
    (case l26 => k_is)
    (case c26 => k_is)
    (case k26 => k_is)
    (case l27 => k_is)
    (case c27 => k_is)
    (case k27 => k_is)
    (case l28 => k_is)
    (case c28 => k_is)
    (case k28 => k_is)
    (case l29 => k_is)
    (case c29 => k_is)
    (case k29 => k_is)
    (case l30 => k_is)
    (case c30 => k_is)
    (case k30 => k_is)
    (case l31 => k_is)
    (case c31 => k_is)
    (case k31 => k_is)
    (case l32 => k_is)
    (case c32 => k_is)
    (case k32 => k_is)
    (case l33 => k_is)
    (case c33 => k_is)
    (case k33 => k_is)
    (case l34 => k_is)
    (case c34 => k_is)
    (case k34 => k_is)
    (case l35 => k_is)
    (case c35 => k_is)
    (case k35 => k_is)
    (case l36 => k_is)
    (case c36 => k_is)
    (case k36 => k_is)
    (case l37 => k_is)
    (case c37 => k_is)
    (case k37 => k_is)
    (case l38 => k_is)
    (case c38 => k_is)
    (case k38 => k_is)
    (case pg_CD => k_is)
    (case hd_CD => k_is)
    (case po_CD => k_is)
    (case sa_CD => k_is)
    (case mk_CD => k_is)
    (case kc_CD => k_is)
    (case n_CD_kept => k_is)
    (case n_CD_late => k_is)
    (case n_CD_names => k_is)
    (case n_CD_sure => k_is)
    (case n_CD_changes => k_is)
    (case n_CD_next => k_is)
    (case bE => k_is)
    (case tE => k_is)
    (case hE => k_is)
    (case x_CP => k_exc)
    (case k_CP => k_is)
    (case b_CP => k_is)
    (case t_CP => k_is)
    (case sD_CP => first | rfl | k_is)
    (case sV_CP => k_is)
    (case eg_CP => k_is)
    (case ek_CP => k_is)
    (case ed_CP => k_is)
    (case ea_CP => k_is)
    (case en_CP => k_is)
    (case et_CP => k_is)
    (case em_CP => k_is)
    (case x_CU => k_exc)
    (case k_CU => k_is)
    (case b_CU => k_is)
    (case t_CU => k_is)
    (case sD_CU => first | rfl | k_is)
    (case sV_CU => k_is)
    (case eg_CU => k_is)
    (case ek_CU => k_is)
    (case ed_CU => k_is)
    (case ea_CU => k_is)
    (case en_CU => k_is)
    (case et_CU => k_is)
    (case em_CU => k_is)
    (case p_notUP => kit_is)
    (case p_notPU => kit_is)

