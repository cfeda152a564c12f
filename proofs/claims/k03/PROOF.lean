import PyProof.Rows.All
import Wide.All
import OpenK.AllK
import Wide.FinOn
import HandS.Style
import HandS.TupAny
import HandS.Strs
import HandS.TupMul
import HandS.Conv
import KE.KDictPairs
import HandS.ForMost
import KE.SortData
import KE.DataMinMax
import KE.DataAny
import KE.DataIsa
import KE.DatumMore
import KE.DatumOrd
import HandS.ForExc
import HandS.CallSlots
import HandS.Lambda
import HandS.TupSets
import KE.SortCalls
import HandS.IsInst
import KE.SortKeyHeap
import KE.KLam
import HandS.Defaults
import HandS.Words
import HandS.HeadHook4
import HandS.HeadWalk
import HandS.EndTab
import PySem.Challenge.RW_callswright_k03_whole_dances_of_any_kind
import HandS.Head0
import HandS.Head1
import HandS.Head2
import HandS.HeadEnd
import HandS.HeadHook1
import HandS.HeadHook2
import HandS.HeadHook3
import KE.DatumMoreOrd
set_option Elab.async false
set_option linter.all false
set_option maxRecDepth 100000
set_option maxHeartbeats 4000000
/-! Core, first addition: t[::k] of a tuple. Own work. -/
set_option autoImplicit false
namespace Pv
open PySem PySem.Spec L2 PyProof.Rows Builtin.Slice
def loS (st : Int) (n : Nat) : Int := (sliceAdjust none none st (n : Int)).1
def cntS (st : Int) (n : Nat) : Nat := slicePlaces (sliceAdjust none none st (n : Int)).1 (sliceAdjust none none st (n : Int)).2 st
/-- the items of xs[::st] -/
def stepG {α : Type} (st : Int) (xs : List α) : List α := (List.range (cntS st xs.length)).filterMap fun (m : Nat) => xs[(loS st xs.length + (m : Int) * st).toNat]?
section
variable {prog : Program} {w : World} {A : Around} {E : Value → Shared → Prop} {s : Shared}
theorem applied_st {sl : Addr} {vs : Value} {st : Int} {n : Nat} {Q : Int × Int × Nat → Shared → Prop} (hs : s.heap.IsSliceOf sl .none .none vs) (ps : IsPart vs (some st)) (h0 : st ≠ 0)
    (h : Q (loS st n, st, cntS st n) s) : wpAny (model prog w) A (sliceApplied (.ref sl) (pure (n : Int))) Q E s := by
  obtain ⟨os, hos, hcs, hds⟩ := id hs
  unfold sliceApplied sliceFields
  refine wpAny_bind (wpAny_bind (wpAny_field hos hds (x := .none) rfl (wpAny_bind (wpAny_field hos hds (x := .none) rfl (wpAny_bind (wpAny_field hos hds (x := vs) rfl (wpAny_pure ?_)))))))
  refine wpAny_bind (HT.slicePart_ ps ?_)
  show wpAny _ _ (if (st == 0) = true then _ else _) _ _ s
  rw [if_neg (by simpa using h0)]
  refine wpAny_bind (HT.slicePart_ .none (wpAny_bind (HT.slicePart_ .none (wpAny_bind (wpAny_pure ?_)))))
  exact wpAny_pure h
theorem getItem_tuple_st {t sl : Addr} {items : Array Value} {vs : Value} {st : Int} {Q : Value → Shared → Prop} (ht : IsTup s.heap t items) (hs : s.heap.IsSliceOf sl .none .none vs) (ps : IsPart vs (some st)) (h0 : st ≠ 0) (h1 : st ≠ 1)
    (hz : (stepG st items.toList).length ≤ sizeLine) (h : Q (.ref s.heap.objs.size) { s with heap := s.heap.push { cls := .type "tuple", data := .seq (stepG st items.toList).toArray } }) :
    wpAny (model prog w) A (getItem (.ref t) (.ref sl)) Q E s := by
  have hok : sizeOk (.seq (stepG st items.toList).toArray) := by
    show (stepG st items.toList).toArray.size ≤ sizeLine
    rw [List.size_toArray]; exact hz
  obtain ⟨os, hos, hcs, hds⟩ := id hs
  have hT : s.TypeIs (.ref sl) "slice" := ⟨os, hos, hcs⟩
  unfold getItem
  try with_reducible refine wpAny_holding ?_
  first | refine wpAny_bind (wpAny_pure ?_) | skip
  refine wpAny_bind (wpAny_sequenceKey ht.typeIs (by decide) (wpAny_bind (wpAny_callSpecial?_slot (name := Str.ofString "__getitem__") ht.typeIs PyProof.Rows.slot_tuple_getitem
    (wpAny_call_entry PyProof.Rows.slot_tuple_getitem ht.typeIs entry_tuple_getitem ?_ (args_tuple_getitem _ _)))))
  show wpAny _ _ (Builtin.Tuple.tupleItemsOf (.ref t) >>= _) _ _ s
  refine wpAny_bind (PyProof.Rows.tupleItemsOf_ ht (wpAny_bind (wpAny_typeOf hT ?_)))
  rw [if_pos (by decide)]
  refine wpAny_bind (applied_st hs ps h0 ?_)
  have hno : ¬ ((loS st items.size == 0 && st == 1 && cntS st items.size == items.size) = true) := by
    intro q
    rw [Bool.and_eq_true, Bool.and_eq_true] at q
    exact h1 (eq_of_beq q.1.2)
  show wpAny _ _ (if (loS st items.size == 0 && st == 1 && cntS st items.size == items.size) = true then _ else _) _ _ s
  rw [if_neg hno]
  have ep : ((List.range (cntS st items.size)).filterMap fun (m : Nat) => items[(loS st items.size + (m : Int) * st).toNat]?).toArray = (stepG st items.toList).toArray := by
    unfold stepG
    rw [Array.length_toList]
    simp only [Array.getElem?_toList]
  rw [ep]
  first
    | exact wpAny_bind (m := Builtin.Tuple.tupleExact _) (wpAny_newObj_type (wpAny_pure ⟨_, rfl, wpAny_pure h⟩) hok)
    | exact wpAny_bind (m := Builtin.Tuple.tupleExact _) (wpAny_newObj_type (wpAny_bind (wpAny_pure (wpAny_pure ⟨_, rfl, wpAny_pure h⟩))) hok)
    | exact wpAny_bind (wpAny_bind (m := Builtin.Tuple.tupleExact _) (wpAny_newObj_type (wpAny_pure (wpAny_pure ⟨_, rfl, wpAny_pure h⟩)) hok))
    | exact wpAny_bind (wpAny_bind (m := Builtin.Tuple.tupleExact _) (wpAny_newObj_type (wpAny_pure ⟨_, rfl, wpAny_pure h⟩) hok))
end
theorem Vals.atN : ∀ {xs : List V} {us : List Value}, Vals xs us → ∀ i : Nat, (xs[i]? = none ∧ us[i]? = none) ∨ ∃ v u, xs[i]? = some v ∧ us[i]? = some u ∧ RelV v u
  | _, _, .nil, i => .inl ⟨by simp, by simp⟩
  | _, _, .cons a b, 0 => .inr ⟨_, _, rfl, rfl, a⟩
  | _, _, .cons a b, i + 1 => by simpa using Vals.atN b i
theorem vals_fm {xs : List V} {us : List Value} (r : Vals xs us) (f : Nat → Nat) : ∀ l : List Nat, Vals (l.filterMap fun m => xs[f m]?) (l.filterMap fun m => us[f m]?)
  | [] => .nil
  | m :: l => by
    rw [List.filterMap_cons, List.filterMap_cons]
    rcases Vals.atN r (f m) with ⟨h1, h2⟩ | ⟨v, u, h1, h2, h3⟩
    · rw [h1, h2]; exact vals_fm r f l
    · rw [h1, h2]; exact .cons h3 (vals_fm r f l)
theorem vals_step {xs : List V} {us : List Value} (r : Vals xs us) (st : Int) : Vals (stepG st xs) (stepG st us) := by
  unfold stepG
  rw [r.length]
  exact vals_fm r _ _
section
variable {X : Cx}
def tStT (K : PySem.W.Frag) (st : Int) (te : TE) : TE := fun σ H Q => te σ H fun x H1 => ∃ a xs, x = .ref a ∧ SqT K H1 a xs ∧ (stepG st xs).length ≤ sizeLine ∧ ∀ p, H1 p = none → Q (.ref p) (upd H1 p (.tup (stepG st xs)))
theorem pe_stepT {e se : Expr} {te : TE} {tst : TO} {st : Int} {p3 pos : Pos} (he : PE X e te) (hst : PO X (some se) tst) (hv : ∀ σ H, tst σ H fun o H' => o = some st ∧ H' = H) (h0 : st ≠ 0) (h1 : st ≠ 1) :
    PE X (.Subscript e (.Slice none none (some se) p3) pos) (tStT X.K st te) := by
  refine ⟨fun pins s σ H Q I h => ?_⟩
  refine Subscript_ (thn (he.run pins s σ H _ I h) fun v s1 ⟨x, H1, I1, r1, a, xs, ex, hx, hz, q⟩ => ?_)
  subst ex
  cases r1
  refine wpAny_Slice (thn (po_none.run pins s1 σ H1 (fun o H2 => o = none ∧ H2 = H1) I1 ⟨rfl, rfl⟩) fun vl s2 ⟨l, H2, I2, pl, el, e2⟩ => ?_)
  subst el e2
  refine thn (po_none.run pins s2 σ H2 (fun o H3 => o = none ∧ H3 = H2) I2 ⟨rfl, rfl⟩) fun vu s3 ⟨u, H3, I3, pu, eu, e3⟩ => ?_
  subst eu e3
  refine thn (hst.run pins s3 σ H3 _ I3 (hv σ H3)) fun vs s4 ⟨o, H4, I4, ps, eo, e4⟩ => ?_
  subst eo e4
  cases pl
  cases pu
  have I5 : Inv X pins σ H4 { s4 with heap := s4.heap.push { cls := .type "slice", data := .fields #[.none, .none, vs] } } := I4.kept (t' := s4.toks) fun b ob q => Heap.get?_push_of_some _ q
  obtain ⟨its, r, ht, _⟩ := I5.tuple hx
  have rs := vals_step r st
  show wpAny (model X.prog X.w) X.A (subscriptTail e (.Slice none none (some se) p3) (.ref a) (.ref s4.heap.objs.size)) (EP X pins σ Q) X.xe { s4 with heap := s4.heap.push { cls := .type "slice", data := .fields #[.none, .none, vs] } }
  refine tail_any (ops := [.ref a, .ref s4.heap.objs.size]) ht.typeIs (PyProof.Rows.slot_tuple_getitem.lookup) ?_ (by with_unfolding_all rfl)
  have hl : (stepG st its).length = (stepG st xs).length := rs.length.symm
  refine getItem_tuple_st ht (Heap.IsSliceOf.new ..) ps h0 h1 (by simpa [hl] using hz) ?_
  refine ⟨.ref _, _, I5.laid (t' := s4.toks) (o := .tup (stepG st xs)) (fun b ob q => Heap.get?_push_of_some _ q) (Nat.le_refl _) ?_, rfl, q _ (I5.hok.fresh (Nat.le_refl _))⟩
  refine ⟨hz, stepG st its, rs, _, Heap.get?_push_size _ rfl, rfl, 0, rfl⟩
end
end Pv
set_option Elab.async false
set_option linter.all false
set_option maxRecDepth 100000
set_option maxHeartbeats 4000000
/-! Core, second addition: set(xs) of a list of texts. Own work. -/
set_option autoImplicit false
namespace Pv
open PySem PySem.Spec PyProof.Rows
def stS (σ : List Str) (v : Str) : List Str := if v ∈ σ then σ else σ ++ [v]
/-- the unlike ones, the first ones -/
def dS (l : List Str) : List Str := l.foldl stS []
theorem dS_next {l : List Str} {i : Nat} {v : Str} (h : l[i]? = some v) : dS (l.take (i + 1)) = stS (dS (l.take i)) v := by
  unfold dS
  rw [List.take_succ, h, Option.toList_some, List.foldl_append]
  rfl
theorem mem_stS (σ : List Str) (v k : Str) : decide (k ∈ stS σ v) = (decide (k ∈ σ) || decide (k = v)) := by
  unfold stS
  by_cases h : v ∈ σ
  · rw [if_pos h]
    by_cases e : k = v
    · subst e; simp [h]
    · simp [e]
  · rw [if_neg h]
    simp
theorem len_stS (σ : List Str) (v : Str) : (stS σ v).length = if decide (v ∈ σ) = true then σ.length else σ.length + 1 := by
  unfold stS
  by_cases h : v ∈ σ <;> simp [h]
theorem nodup_dS (l : List Str) : (dS l).Nodup := by
  have key : ∀ (l σ : List Str), σ.Nodup → (l.foldl stS σ).Nodup := by
    intro l
    induction l with
    | nil => intro σ h; exact h
    | cons a l ih =>
      intro σ h
      refine ih _ ?_
      unfold stS
      split
      · exact h
      · rename_i n
        rw [List.nodup_append]
        refine ⟨h, by simp, ?_⟩
        intro x hx y hy
        rw [List.mem_singleton.mp hy]
        rintro rfl
        exact n hx
  exact key l [] List.nodup_nil
theorem mem_dS (l : List Str) (k : Str) : k ∈ dS l ↔ k ∈ l := by
  have key : ∀ (l σ : List Str), k ∈ l.foldl stS σ ↔ k ∈ σ ∨ k ∈ l := by
    intro l
    induction l with
    | nil => intro σ; simp
    | cons a l ih =>
      intro σ
      rw [List.foldl_cons, ih]
      have := mem_stS σ a k
      rw [← Bool.decide_or, decide_eq_decide] at this
      rw [this, List.mem_cons]
      exact or_assoc
  simpa [dS] using key l []
theorem len_dS (l : List Str) : (dS l).length ≤ l.length := by
  have key : ∀ (l σ : List Str), (l.foldl stS σ).length ≤ σ.length + l.length := by
    intro l
    induction l with
    | nil => intro σ; simp
    | cons a l ih =>
      intro σ
      rw [List.foldl_cons]
      refine Nat.le_trans (ih _) ?_
      have : (stS σ a).length ≤ σ.length + 1 := by rw [len_stS]; split <;> omega
      rw [List.length_cons]
      omega
  simpa [dS] using key l []
section
variable {prog : Program} {w : World} {A : Around} {R : Result → Shared → Prop} {I : Addr} {fp wr : List Addr} {G : Array GenState → Array GenState → Prop} {n : Nat} {Pq : Nat → Value → Prop} {St : Nat → Shared → Prop}
/-- set.update's own loop, over texts -/
theorem update_texts (W : WalksS prog w A.in1 I fp wr G n Pq St) (S : Addr) (hSf : S ∉ fp) (xs : List Str) (hn : xs.length = n) (hval : ∀ i v, Pq i v → ∃ x t, xs[i]? = some x ∧ v = .str x t) (hb : n + 1 < scanBound) :
    ∀ (k i : Nat) (s : Shared), n - i = k → i ≤ n → St i s → s.heap.SetOf (PySem.strKind prog w) S (fun y => decide (y ∈ dS (xs.take i))) (dS (xs.take i)).length →
      (∀ s', Moved (S :: wr) G s s' → s'.heap.SetOf (PySem.strKind prog w) S (fun y => decide (y ∈ dS xs)) (dS xs).length → R (.ok (.ret .none)) s') → codeAny (model prog w) A (.builtin "set.update.loop" ⟨[.ref S, .ref I], []⟩) R s := by
  have nw : S ∉ wr := fun h => hSf (W.sub _ h)
  have up : ∀ b ∈ wr, b ∈ S :: wr := fun b hb => List.mem_cons_of_mem _ hb
  intro k
  induction k with
  | zero =>
    intro i s hk hi hst hS hR
    obtain rfl : i = n := by omega
    refine codeAny_builtin F.entry_set_update_loop (by
      rw [Around.under_plainId F.plain_set_update_loop _]
      exact wpAny_bind (m := pyNext (.ref I)) (W.done s _ _ hst fun s' hm => wpAny_pure (hR s' (hm.mono up) (by
        rw [← hn, List.take_length] at hS
        obtain ⟨o, es, ep, t, ho, rest⟩ := hS
        exact ⟨o, es, ep, t, hm.heap S _ nw ho, rest⟩))))
  | succ k ih =>
    intro i s hk hi hst hS hR
    have hlt : i < n := by omega
    refine codeAny_builtin F.entry_set_update_loop (by
      rw [Around.under_plainId F.plain_set_update_loop _]
      refine wpAny_bind (m := pyNext (.ref I)) (W.item i s _ _ hlt hst fun v s' hP hst' hm => ?_)
      obtain ⟨x, t, hx, rfl⟩ := hval i v hP
      have hS' : s'.heap.SetOf (PySem.strKind prog w) S (fun y => decide (y ∈ dS (xs.take i))) (dS (xs.take i)).length := by
        obtain ⟨o, es, ep, tb, ho, rest⟩ := hS
        exact ⟨o, es, ep, tb, hm.heap S _ nw ho, rest⟩
      show wpAny _ A.in1 (holding [Value.str x t] (setAdd S (.str x t)) >>= _) _ _ s'
      refine wpAny_bind (wpAny_holding (by
        unfold setAdd
        refine wpAny_holding (wpAny_bind ((PySem.strKind prog w).pyHash (k := x) (PySem.strKind_is _ _ _ _) ?_))
        have room : (dS (xs.take i)).length + 1 < scanBound := by
          have h1 := len_dS (xs.take i)
          have h2 := List.length_take_le i xs
          omega
        refine wpAny_setAddHashed_of (knd := PySem.strKind prog w) (s := { s' with toks := s'.toks + 1 }) (PySem.strKind_is _ _ _ _) rfl hS' room fun h' hsb hS2 => ?_
        have hSi : h'.SetOf (PySem.strKind prog w) S (fun y => decide (y ∈ dS (xs.take (i + 1)))) (dS (xs.take (i + 1))).length := by
          refine SetOf_congr hS2 (fun y => ?_) ?_
          · rw [dS_next hx, mem_stS]
          · rw [dS_next hx, len_stS]
        refine wpAny_pure ⟨plainId_quiet F.plain_set_update_loop _, ih (i + 1) _ (by omega) hlt (W.frame _ s' _ _ hst' (Nat.le_succ _) fun b hb o e => ?_) hSi fun s'' hm'' hS'' => ?_⟩
        · rw [hsb.2 b (fun z : b = S => hSf (by rw [← z]; exact hb))]
          exact e
        · refine hR s'' (Moved.trans W.gtrans ((hm.mono up).then_heap (Nat.le_succ _) fun b o hb e => ?_) hm'') hS''
          rw [hsb.2 b (fun z : b = S => hb (by rw [z]; exact List.mem_cons_self))]
          exact e)))
end
theorem texts_at : ∀ {us : List Value} {xs : List Str}, StrsAre us xs → ∀ (i : Nat) (v : Value), us[i]? = some v → ∃ x t, xs[i]? = some x ∧ v = .str x t
  | _, _, .nil, i, v, h => by simp at h
  | _, _, .cons n t hr, 0, v, h => by simp at h; exact ⟨n, t, rfl, h.symm⟩
  | _, _, .cons n t hr, i + 1, v, h => by
    obtain ⟨x, t', e1, e2⟩ := texts_at hr i v (by simpa using h)
    exact ⟨x, t', by simpa using e1, e2⟩
section
variable {prog : Program} {w : World} {A : Around} {E : Value → Shared → Prop} {s : Shared}
abbrev setOb (led : Bool) : Obj := { cls := .type "set", dict := none, data := .set #[] 0 (.fresh 0 0 led) }
/-- set(xs), xs a list of texts -/
theorem call_set_texts {l : Addr} {items : Array Value} {xs : List Str} {Q : Value → Shared → Prop} (hh : A.handled = none) (hl : s.heap.IsList l items) (hi : StrsAre items.toList xs) (hsz : xs.length = items.size) (hb : items.size + 1 < scanBound)
    (h : ∀ (h' : Heap) (tk : Nat), h'.SetOf (PySem.strKind prog w) s.heap.objs.size (fun y => decide (y ∈ dS xs)) (dS xs).length → (∀ b o, b < s.heap.objs.size → s.heap.get? b = some o → h'.get? b = some o) → Q (.ref s.heap.objs.size) { s with heap := h', toks := tk }) :
    wpAny (model prog w) A (call (.type "set") [.ref l]) Q E s := by
  obtain ⟨c, tl, hmro⟩ := PySem.F.called_set.mro
  have made := PySem.F.called_set.made
  have subt := PySem.F.called_set.sub
  refine wpAny_call (codeAny_of_tree (show wpAny _ _ (callAny (.type "set") _) _ _ _ from wpAny_pure ⟨Code.quiet_builtin _ (by decide +kernel), codeAny_builtin PySem.F.entry_type_call ?_⟩))
  rw [Around.under_plain (weight_type_call_type "set" [.ref l] []) rfl]
  have notT := PySem.F.called_set.notType
  have canC := PySem.F.called_set.canCreate
  have tcall := PySem.F.typeCall_set_1 (.ref l)
  repeat (any_goals (first | assumption | wp_step))
  refine codeAny_mono (code_set_new_1 (.ref l) (E := E) (Q₁ := fun obj s₁ => ∃ led : Bool, obj = .ref s.heap.objs.size ∧ s₁ = { s with heap := s.heap.push (setOb led) }) fun led => ⟨led, rfl, rfl⟩) fun r s₁ hr => ?_
  cases r with
  | error e => exact hr
  | ok fl =>
    cases fl with
    | ret obj =>
      obtain ⟨led, rfl, rfl⟩ := hr
      have at0 : (s.heap.push (setOb led)).get? s.heap.objs.size = some (setOb led) := Heap.get?_push_size _ rfl
      have ty0 : Shared.TypeIs { s with heap := s.heap.push (setOb led) } (.ref s.heap.objs.size) "set" := ⟨_, at0, rfl⟩
      have look := PySem.F.called_set.init.lookup
      have bnd := PySem.F.called_set.init.bind (.ref s.heap.objs.size)
      repeat (any_goals (first | assumption | wp_step))
      refine codeAny_mono (codeAny_call_builtin (R := wants (fun r s₂ => r = .none ∧ ∃ h' tk, s₂ = { s with heap := h', toks := tk } ∧ h'.SetOf (PySem.strKind prog w) s.heap.objs.size (fun y => decide (y ∈ dS xs)) (dS xs).length ∧
          (∀ b o, b < s.heap.objs.size → s.heap.get? b = some o → h'.get? b = some o)) E) PySem.F.called_set.init.plain PySem.F.entry_set_init (check_set_init_1 ty0 ?_)) fun r₂ s₂ hr₂ => ?_
      · obtain ⟨⟨ocls, odict, odata, oslots⟩, hol, hcl, nl, hdl⟩ := hl
        simp only at hcl hdl
        subst hcl hdl
        have lat : (s.heap.push (setOb led)).get? l = some { cls := .type "list", dict := odict, data := .seq items nl, slots := oslots } := Heap.get?_push_of_some _ hol
        have sub1 := PySem.F.sub_list_set
        have sub2 := PySem.F.sub_list_frozenset
        have nodict : (Value.type "list" == Value.type "dict") = false := by decide
        have lis : (s.heap.push (setOb led)).IsList l items := ⟨_, lat, rfl, nl, rfl⟩
        unfold Builtin.«set.__init__» noKeywords Builtin.Frozenset.updateFrom
        generalize hPI : pyIter = PI
        wp_walk
        subst hPI
        refine wpAny_pyIter_list lis (wpAny_bind (wpAny_runValue ?_))
        have small : l < s.heap.objs.size := Heap.lt_size hol
        have hh3 : A.in1.in1.in1.handled = none := by simp [hh]
        have esz : (s.heap.push (setOb led)).objs.size = s.heap.objs.size + 1 := Heap.size_push ..
        refine update_texts ((Walks.list hh3 _ l (by rw [esz]; exact Nat.ne_of_lt (Nat.lt_succ_of_lt small)) items).toS) s.heap.objs.size ?_ xs hsz (fun i v hv => texts_at hi i v (by rw [Array.getElem?_toList]; exact hv)) hb (items.size - 0) 0 _ (by omega) (Nat.zero_le _)
          ⟨⟨_, Heap.get?_push_size _ rfl, rfl, rfl⟩, (lis.push _)⟩ ?_ ?_
        · rw [esz]
          simp only [List.mem_cons, List.not_mem_nil, or_false, not_or]
          exact ⟨Nat.ne_of_lt (Nat.lt_succ_self _), Nat.ne_of_gt small⟩
        · exact SetOf_congr ((setObjOf_fresh (knd := PySem.strKind prog w) led).setOf (Heap.get?_push_of_some _ at0) (by unfold scanBound; omega)) (fun _ => by simp [dS]) rfl
        · intro s' hm hS'
          obtain ⟨h', g', d', tk', os'⟩ := s'
          have eg : g' = s.gens := hm.gens
          have ed : d' = s.drawn := hm.drawn
          have eo : os' = s.os := hm.os
          subst eg ed eo
          show wpAny _ _ _ _ _ _
          refine wpAny_pure (show wpAny _ _ (ret Value.none) _ _ _ from wpAny_pure ⟨rfl, h', tk', rfl, hS', fun b o hb e => ?_⟩)
          refine hm.heap b o ?_ (Heap.get?_push_of_some _ (Heap.get?_push_of_some _ e))
          rw [esz]
          simp only [List.mem_cons, List.not_mem_nil, or_false, not_or]
          exact ⟨Nat.ne_of_lt hb, Nat.ne_of_lt (Nat.lt_succ_of_lt hb)⟩
      · cases r₂ with
        | error e => exact hr₂
        | ok fl₂ =>
          cases fl₂ with
          | ret r =>
            obtain ⟨rfl, h', tk, rfl, hS', hk'⟩ := hr₂
            repeat (any_goals (first | assumption | wp_step))
            exact h _ _ hS' hk'
          | _ => exact hr₂.elim
    | _ => exact hr.elim
end
end Pv
set_option Elab.async false
set_option linter.all false
set_option maxRecDepth 100000
set_option maxHeartbeats 4000000
/-! Core, third addition: new tuples, known to the object; dict(xs) of pairs. Own work. -/
set_option autoImplicit false
namespace Pv
open PySem PySem.Spec L2 PyProof.Rows
/-- a new tuple's object -/
abbrev tupO (us : List Value) : Obj := { cls := .type "tuple", data := .seq us.toArray }
/-- at p a new tuple stands, an object without a dict -/
def NewT (xs : List V) (H : Hp) (Q : VK) : Prop := ∀ (p : Addr) (o : Obj), H p = none → o.dict = none → Q (.ref p) (upd H p (.frz o (.tup xs)))
section
variable {X : Cx} {pins : List (Addr × Obj)} {σ : L2.St} {H : Hp} {s : Shared} {Q : VK} {xs : List V} {us : List Value}
theorem newT_at (I : Inv X pins σ H s) (r : Vals xs us) (z : xs.length ≤ sizeLine) (q : NewT xs H Q) : EP X pins σ Q (.ref s.heap.objs.size) { s with heap := s.heap.push (tupO us) } := by
  refine ⟨.ref s.heap.objs.size, _, I.laid (t' := s.toks) (o := .frz (tupO us) (.tup xs)) (fun b ob e => Heap.get?_push_of_some _ e) (Nat.le_refl _) ?_, rfl, q _ _ (I.hok.fresh (Nat.le_refl _)) rfl⟩
  exact ⟨Heap.get?_push_size _ rfl, z, us, r, IsTup.new _ _⟩
/-- a tuple's display -/
def tTupN (t : TA) : TE := fun σ H Q => t σ H fun xs H1 => xs.length ≤ sizeLine ∧ NewT xs H1 Q
theorem pe_tupN {es : List Expr} {t : TA} {c : Nat} {pos : Pos} (h : PA X es t) : PE X (.Tuple es c pos) (tTupN t) :=
  ⟨fun pins s σ H Q I hq => wpAny_Tuple_spliced (thn (h.run pos pins s σ H _ I hq) fun us s1 ⟨xs, H1, I1, r, z, q⟩ => ⟨by rw [← r.length]; exact z, newT_at I1 r z q⟩)⟩
/-- tuple(xs) -/
theorem call_tupleN : CallR X (.type "tuple") (fun xs H Q => ∃ p ys, xs = [.ref p] ∧ ((SqL X.K H p ys ∧ NewT ys H Q) ∨ (SqT X.K H p ys ∧ Q (.ref p) H))) := by
  intro pins s σ H xs us Q I r ⟨p, ys, ex, h⟩
  subst ex
  obtain ⟨u, rfl, rx⟩ := vals1 r
  cases rx
  rcases h with ⟨hq, q⟩ | ⟨hq, q⟩
  · obtain ⟨its, r', pl, hz⟩ := I.list hq
    have hlen := r'.length
    exact call_tuple_list pl.isList (fun h' kp => newT_at (s := { s with heap := h' }) (I.kept (t' := s.toks) kp) r' hz q) (by simp only [List.size_toArray]; omega)
  · obtain ⟨its, r', pl, hz⟩ := I.tuple hq
    exact call_tuple_same pl ⟨.ref p, H, I, rfl, q⟩
/-- tuple(range(..)) -/
def tTupRgN (te : L2.St → Hp → (Int → Int → Hp → Prop) → Prop) : TE := fun σ H Q => te σ H fun a b H1 => RgOk a b ∧ NewT (rgV a b) H1 Q
theorem pe_tupRgN {e : Expr} {te : L2.St → Hp → (Int → Int → Hp → Prop) → Prop} {p pos : Pos} (hc : X.calm = true) (hg : Gl X "tuple") (hm : X.mg "tuple" = none) (he : PRg X e te) (na : starEach [e] X.env = (false, eval e X.env) :: starEach [] X.env) : PE X (.Call (.Name "tuple" p) [e] [] pos) (tTupRgN te) := by
  refine ⟨fun pins s σ H Q I h => Call_ (ld_blt I hg hm boot_tuple (PyProof.Rows.callWith_type1 (args_cons (thn (he pins s σ H _ I h) fun x s1 ⟨r, a, b, t, u, v, H1, ex, hr, I1, ok, q⟩ => args_nil ?_) na) na rfl))⟩
  subst ex
  obtain ⟨b1, b2, b3, b4, b5⟩ := ok
  refine call_tuple_range (n := (b - a).toNat) (I1.ok.hd hc) hr (small_one b1 b2 b3 b4) (rangeSize_nat a b) b5 fun h' tk acc hk hi => ?_
  have := newT_at (us := acc.toList) (I1.kept (t' := tk) hk) (vals_rg hi) (by rw [rgV_length, sizeLine_eq]; omega) q
  unfold tupO at this
  rw [Array.toArray_toList] at this
  exact this
/-- t + u -/
def rCatN (K : PySem.W.Frag) : R2 := fun x y H Q => ∃ a b xs ys, x = .ref a ∧ y = .ref b ∧ SqT K H a xs ∧ SqT K H b ys ∧ xs.length + ys.length ≤ sizeLine ∧ (xs = [] → Q (.ref b) H) ∧ (xs ≠ [] → ys = [] → Q (.ref a) H) ∧ (xs ≠ [] → ys ≠ [] → NewT (xs ++ ys) H Q)
theorem op_catN : OpR X (binaryOp .Add) (rCatN X.K) := by
  intro pins s σ H x y v u Q I rx ry ⟨a, b, xs, ys, e1, e2, ha, hb, hz, q0, q1, q2⟩
  subst e1 e2
  by_cases hx : xs = []
  · exact op_catA pins s σ H _ _ v u Q I rx ry ⟨a, b, xs, ys, rfl, rfl, ha, hb, hz, q0, q1, fun z => absurd hx z⟩
  · cases rx
    cases ry
    obtain ⟨its, r1, p1, _⟩ := I.tuple ha
    obtain ⟨its2, r2, p2, _⟩ := I.tuple hb
    exact HT.cat_tup p1 p2 (fun z => hx (r1.nil_iff.mp z)) (fun z => ⟨.ref a, H, I, rfl, q1 hx (r2.nil_iff.mp z)⟩) (fun z => newT_at I (r1.append r2) (by rw [List.length_append]; exact hz) (q2 hx fun w => z (r2.nil_iff.mpr w))) (by rw [← r1.length, ← r2.length]; exact hz)
/-- t[lo:hi] -/
def rSlN (K : PySem.W.Frag) : V → Option Int → Option Int → Hp → VK → Prop := fun x lo hi H Q => ∃ a xs, x = .ref a ∧ SqT K H a xs ∧
  (HT.sIx xs.length 0 lo = 0 ∧ HT.sIx xs.length xs.length hi = xs.length → Q (.ref a) H) ∧ (¬ (HT.sIx xs.length 0 lo = 0 ∧ HT.sIx xs.length xs.length hi = xs.length) → NewT (cutV xs lo hi) H Q)
theorem sl_tupN : SlR X (rSlN X.K) := by
  intro pins s σ H x v vl vu lo hi sl Q I rx hs pl pu ⟨a, xs, ex, hx, q1, q2⟩
  subst ex
  by_cases hw : HT.sIx xs.length 0 lo = 0 ∧ HT.sIx xs.length xs.length hi = xs.length
  · exact sl_tupA pins s σ H _ v vl vu lo hi sl Q I rx hs pl pu ⟨a, xs, rfl, hx, q1, fun z => absurd hw z⟩
  · cases rx
    obtain ⟨its, r, ht, hz⟩ := I.tuple hx
    have hlen : its.toArray.size = xs.length := by rw [List.size_toArray]; exact r.length.symm
    refine ⟨"tuple", _, PyProof.Rows.slot_tuple_getitem.lookup, ht.typeIs, HT.getItem_tuple_cut ht hs pl pu (by rw [hlen]; exact hw) ?_ (by rw [hlen]; exact hz)⟩
    rw [hlen]
    exact newT_at I ((r.drop (HT.sIx xs.length 0 lo)).take (HT.sIx xs.length xs.length hi - HT.sIx xs.length 0 lo)) (Nat.le_trans (cutV_length xs lo hi) hz) (q2 hw)
/-- t[::k] -/
def tStN (K : PySem.W.Frag) (st : Int) (te : TE) : TE := fun σ H Q => te σ H fun x H1 => ∃ a xs, x = .ref a ∧ SqT K H1 a xs ∧ (stepG st xs).length ≤ sizeLine ∧ NewT (stepG st xs) H1 Q
theorem pe_stepN {e se : Expr} {te : TE} {tst : TO} {st : Int} {p3 pos : Pos} (he : PE X e te) (hst : PO X (some se) tst) (hv : ∀ σ H, tst σ H fun o H' => o = some st ∧ H' = H) (h0 : st ≠ 0) (h1 : st ≠ 1) :
    PE X (.Subscript e (.Slice none none (some se) p3) pos) (tStN X.K st te) := by
  refine ⟨fun pins s σ H Q I h => Subscript_ (thn (he.run pins s σ H _ I h) fun v s1 ⟨x, H1, I1, r1, a, xs, ex, hx, hz, q⟩ => ?_)⟩
  subst ex
  cases r1
  refine wpAny_Slice (thn (po_none.run pins s1 σ H1 (fun o H2 => o = none ∧ H2 = H1) I1 ⟨rfl, rfl⟩) fun vl s2 ⟨l, H2, I2, pl, el, e2⟩ => ?_)
  subst el e2
  refine thn (po_none.run pins s2 σ H2 (fun o H3 => o = none ∧ H3 = H2) I2 ⟨rfl, rfl⟩) fun vu s3 ⟨u, H3, I3, pu, eu, e3⟩ => ?_
  subst eu e3
  refine thn (hst.run pins s3 σ H3 _ I3 (hv σ H3)) fun vs s4 ⟨o, H4, I4, ps, eo, e4⟩ => ?_
  subst eo e4
  cases pl
  cases pu
  have I5 : Inv X pins σ H4 { s4 with heap := s4.heap.push { cls := .type "slice", data := .fields #[.none, .none, vs] } } := I4.kept (t' := s4.toks) fun b ob q => Heap.get?_push_of_some _ q
  obtain ⟨its, r, ht, _⟩ := I5.tuple hx
  have rs := vals_step r st
  show wpAny (model X.prog X.w) X.A (subscriptTail e (.Slice none none (some se) p3) (.ref a) (.ref s4.heap.objs.size)) (EP X pins σ Q) X.xe { s4 with heap := s4.heap.push { cls := .type "slice", data := .fields #[.none, .none, vs] } }
  refine tail_any (ops := [.ref a, .ref s4.heap.objs.size]) ht.typeIs (PyProof.Rows.slot_tuple_getitem.lookup) ?_ (by with_unfolding_all rfl)
  have hl : (stepG st its).length = (stepG st xs).length := rs.length.symm
  exact getItem_tuple_st ht (Heap.IsSliceOf.new ..) ps h0 h1 (by simpa [hl] using hz) (newT_at I5 (by simpa using rs) hz q)
/-- t * n -/
def rRepN (K : PySem.W.Frag) : R2 := fun x y H Q => ∃ l k xs, x = .ref l ∧ y = .int k ∧ SqT K H l xs ∧ xs ≠ [] ∧ 2 ≤ k ∧ k ≤ 1000 ∧ xs.length ≤ 1000 ∧ NewT (List.replicate k.toNat xs).flatten H Q
theorem op_repN : OpR X (binaryOp .Mult) (rRepN X.K) := by
  intro pins s σ H x y v u Q I rx ry ⟨l, k, xs, e1, e2, hT, hne, h1, h2, hz, q⟩
  subst e1 e2
  cases rx
  obtain ⟨t, rfl⟩ := ry
  obtain ⟨its, r, ⟨⟨cls, dd, data, sl⟩, ho, hc, n, hd⟩, hs⟩ := I.tuple hT
  dsimp only at hc hd
  subst hc hd
  have ln : its.length = xs.length := r.length.symm
  have emp : its.toArray.isEmpty = false := by
    cases its with
    | nil => exact absurd (List.eq_nil_of_length_eq_zero ln.symm) hne
    | cons a b => rfl
  have sz0 : its.toArray.size = xs.length := by rw [List.size_toArray, ln]
  have prod : k.toNat * xs.length ≤ 1000 * 1000 := Nat.mul_le_mul (by omega) hz
  have prodI : ((its.toArray.size : Nat) : Int) * k ≤ 1000000 := by
    rw [sz0]
    have := Int.mul_le_mul_of_nonneg_right (show ((xs.length : Nat) : Int) ≤ 1000 by omega) (show 0 ≤ k by omega)
    omega
  have long : (List.replicate k.toNat its).flatten.length ≤ sizeLine := by rw [lm_len_rep_flat, ln, sizeLine_eq]; omega
  have t0 : (decide (k < -(2 ^ 63)) || decide (k ≥ 2 ^ 63)) = false := by rw [decide_eq_false (by omega), decide_eq_false (by omega)]; rfl
  have t1 : (its.toArray.isEmpty || k == 1) = false := by rw [emp, Bool.false_or]; exact beq_eq_false_iff_ne.mpr (by omega)
  have t2 : (decide (k ≤ 0) || its.toArray.isEmpty) = false := by rw [emp, Bool.or_false]; exact decide_eq_false (by omega)
  have t4 : Builtin.Tuple.tupleTooMany (((its.toArray.size : Nat) : Int) * k) = false := by unfold Builtin.Tuple.tupleTooMany; rw [sizeLine_eq]; exact decide_eq_false (by omega)
  have fin := newT_at I (r.rep k.toNat) (by rw [lm_len_rep_flat, sizeLine_eq]; omega) q
  rw [tupO, ← size_rep] at fin
  refine wpAny_binaryOp_repeat_ref (T := "tuple") (U := "int") (by decide) ⟨_, ho, rfl⟩ (fun s' => typeIs_int s' k t) noFill_tuple_mul F.fills_int_mul F.slot_int_rmul repeat_tuple F.slot_int_index.lookup ?_
  exact call_meets F.slot_int_rmul (typeIs_int s k t) F.entry_int_rmul (F.args_int_rmul_2 _ _) (int_rmul_tuple k t l its.toArray n dd sl) ⟨ho, rfl, ⟨_, ho, rfl⟩,
    call_meets F.slot_tuple_mul ⟨_, ho, rfl⟩ F.entry_tuple_mul (F.args_tuple_mul_2 _ _) (tuple_mulW l its.toArray n dd sl k t t0 t1 t2 (by omega) t4 (by rw [size_rep, List.size_toArray]; exact long)) ⟨ho, fin⟩⟩
/-! ### dict(xs) of pairs -/
/-- a tuple, its object without a dict -/
def TuD (K : PySem.W.Frag) (H : Hp) (a : Addr) (xs : List V) : Prop := (∃ o, H a = some (.frz o (.tup xs)) ∧ o.dict = none) ∨
  ∃ (o : Obj) (its : Array Value) (n : Nat), K.lookup a = some o ∧ o.cls = .type "tuple" ∧ o.dict = none ∧ o.data = .seq its n ∧ its.size ≤ sizeLine ∧ Vals xs its.toList
theorem TuD.sq {K : PySem.W.Frag} {a : Addr} (h : TuD K H a xs) : SqT K H a xs := by
  rcases h with ⟨o, e, _⟩ | ⟨o, its, n, h1, h2, _, h3⟩
  · exact .inl (.inr ⟨o, e⟩)
  · exact .inr ⟨o, its, n, h1, h2, h3⟩
theorem TuD.plain (I : Inv X pins σ H s) {a : Addr} (h : TuD X.K H a xs) : ∃ its : List Value, Vals xs its ∧ PlainSeq "tuple" s.heap a its.toArray ∧ xs.length ≤ sizeLine := by
  rcases h with ⟨o, e, hd⟩ | ⟨o, its, n, h1, h2, hd, h3, h4, h5⟩
  · obtain ⟨ho, z, its, r, o', ho', hc, n, hdat⟩ := I.hok a _ e
    obtain rfl : o = o' := by rw [ho] at ho'; exact Option.some.inj ho'
    exact ⟨its, r, ⟨o, n, ho, hc, hd, hdat⟩, z⟩
  · exact ⟨its.toList, h5, ⟨o, n, I.kIn a o h1, h2, hd, by simpa using h3⟩, by rw [h5.length, Array.length_toList]; exact h4⟩
theorem pairs_at (I : Inv X pins σ H s) : ∀ {ps : List Addr} {kvs : List (Key × V)}, Paired (fun p kv => SqT X.K H p [kV kv.1, kv.2]) ps kvs →
    ∃ (prs : List (Key × Value)) (pv : List (Value × Value)), KV kvs prs ∧ prs.length = ps.length ∧ pv.length = ps.length ∧ ∀ (j : Nat) (k v : Value), pv[j]? = some (k, v) → ∃ (b : Addr) (key : Key), ps[j]? = some b ∧ IsTup s.heap b #[k, v] ∧ prs[j]? = some (key, v) ∧ keyIs key k = true
  | _, _, .nil => ⟨[], [], .nil, rfl, rfl, fun j k v e => by simp at e⟩
  | _, _, .cons (a := p) (b := kv) h t => by
    obtain ⟨prs, pv, r, hl, hl2, hp⟩ := pairs_at I t
    obtain ⟨its, rv, ht, _⟩ := I.tuple h
    obtain ⟨u, y, rfl, ru, ry⟩ := vals2 rv
    refine ⟨(kv.1, y) :: prs, (u, y) :: pv, .cons ⟨rfl, ry⟩ r, by rw [List.length_cons, List.length_cons, hl], by rw [List.length_cons, List.length_cons, hl2], fun j k v e => ?_⟩
    cases j with
    | zero =>
      cases Option.some.inj e
      exact ⟨p, kv.1, rfl, ht, rfl, kV_is (P := X.prog) (w := X.w) ru⟩
    | succ j =>
      obtain ⟨b, key, e1, e2, e3, e4⟩ := hp j k v (by simpa using e)
      exact ⟨b, key, by simpa using e1, e2, by simpa using e3, e4⟩
/-- dict(t), t a tuple of pairs -/
theorem call_dictT (hcalm : X.calm = true) : CallR X (.type "dict") (fun xs H Q => ∃ (a : Addr) (ps : List Addr) (kvs : List (Key × V)), xs = [.ref a] ∧ TuD X.K H a (ps.map V.ref) ∧ Paired (fun p kv => SqT X.K H p [kV kv.1, kv.2]) ps kvs ∧
    ∀ p, H p = none → Q (.ref p) (upd H p (.dK (mergeK [] kvs)))) := by
  intro pins s σ H xs us Q I r ⟨a, ps, kvs, ex, hq, hp, q⟩
  subst ex
  obtain ⟨u, rfl, rx⟩ := vals1 r
  cases rx
  obtain ⟨its, rv, pl, hz⟩ := TuD.plain I hq
  obtain rfl := refs_at rv
  rw [List.length_map] at hz
  obtain ⟨prs, pv, rel, hl, hl2, hpr⟩ := pairs_at I hp
  have items : PairItems s.heap (ps.map Value.ref).toArray (fun j => (ps[j]?).getD 0) pv := by
    refine ⟨by simp [hl2], fun j k v e => ?_⟩
    obtain ⟨b, key, e1, e2, _⟩ := hpr j k v e
    refine ⟨by simp [e1], .inl ?_⟩
    show s.heap.IsTuple ((ps[j]?).getD 0) #[k, v]
    rw [e1]
    exact e2
  refine PySem.call_dict_pairs (knd := mixKind X.prog X.w) (kvs := prs) (PairArg.tuple a (ps.map Value.ref).toArray (fun j => (ps[j]?).getD 0) pv) (I.ok.hd hcalm) ⟨pl, items⟩ ⟨by rw [hl, hl2], fun i key v e => ?_⟩ (by rw [hl2]; exact hz) fun h' tk hd' k => ?_
  · obtain ⟨b, ky, e1, e2, e3, e4⟩ := hpr i key v e
    exact ⟨ky, e3, e4⟩
  · have hm : (s.heap.objs.size == sysModules) = false := beq_eq_false_iff_ne.mpr (Nat.ne_of_gt I.big)
    have hlen : (mergeK [] kvs).length ≤ sizeLine := by
      have := length_mergeK kvs []
      rw [List.length_nil, Nat.zero_add, rel.length, hl] at this
      omega
    exact ⟨.ref s.heap.objs.size, _, I.laid (t' := tk) (o := .dK (mergeK [] kvs)) (fun b o e => k b o (by simp) e) (Nat.le_refl _) ⟨hlen, hm, merged [] prs, KV.merge rel .nil, hd'⟩, rfl, q _ (I.hok.fresh (Nat.le_refl _))⟩
end
end Pv
set_option Elab.async false
set_option linter.all false
set_option maxRecDepth 100000
/-! Core 0: the compact program texts and what they mean over plain data (PyData). Own work. -/
namespace Pv
open PySem

/-- an exception: its class by number, its one field -/
structure Ex where
  cls : Nat
  fld : PyData

inductive Slot where
  | un
  | v (d : PyData)
  /-- a list or dict that only this name holds -/
  | own (d : PyData)
  /-- the drawing state of a law -/
  | st
  /-- an instance that only this name holds, its fields -/
  | ob (fs : List (Str × PyData))
abbrev Env := List Slot

inductive Op2 where
  | add | sub | mul | mod | fdiv
  deriving DecidableEq
inductive Prim where
  | len | mn | mx | abs | srt | tup | lst | int | all | any | sum | dct
  deriving DecidableEq
inductive Cmp where
  | eq | ne | lt | le | gt | ge | is_ | isn | in_ | nin
  deriving DecidableEq
inductive Tg where
  | nm (i : Nat)
  | tp (is : List Nat)
mutual
inductive CE where
  | cst (d : PyData)
  | nm (i : Nat)
  | bo (i : Nat)
  | stn (i : Nat)
  | gl (k : Nat) (x : Str) (d : PyData)
  | neg (a : CE)
  | bin (o : Op2) (a b : CE)
  | cmp (o : Cmp) (a b : CE)
  | chn (o o' : Cmp) (a b c : CE)
  | and (a b : CE)
  | or (a b : CE)
  | not (a : CE)
  | ife (t a b : CE)
  | tup (es : CEs)
  | lst (es : CEs)
  | idx (a i : CE)
  | sl (a lo hi : CE)
  /-- a[::k] -/
  | slp (a : CE) (k : Int)
  | call (f : Nat) (es : CEs)
  /-- a call; the list that the name i alone holds is lent -/
  | cab (i : Nat) (f : Nat) (es : CEs)
  | prim (p : Prim) (es : CEs)
  | isa (t : Nat) (a : CE)
  | lenset (a : CE)
  | rng (tup : Bool) (a : CE)
  | comp (elt : CE) (tg : Tg) (it : CI) (t : CE)
  | comp2 (elt : CE) (tg : Tg) (it : CI) (t : CE) (tg1 : Tg) (it1 : CI) (t1 : CE)
inductive CEs where
  | nil
  | cons (e : CE) (es : CEs)
inductive CI where
  | seq (e : CE)
  | rng (a : CE)
  | rng2 (a b : CE)
  /-- the signs of a text -/
  | chr (a : CE)
end

/-- how many -/
def cesLen : CEs → Nat
  | .nil => 0
  | .cons _ es => cesLen es + 1
/-! ### values -/
def asB : PyData → (Bool → Prop) → Prop
  | .bool b, k => k b
  | _, _ => False
def asI : PyData → (Int → Prop) → Prop
  | .int i, k => k i
  | _, _ => False
/-- a list or a tuple, its items -/
def asS : PyData → (List PyData → Prop) → Prop
  | .list xs, k => k xs
  | .tuple xs, k => k xs
  | _, _ => False
def asL : PyData → (List PyData → Prop) → Prop
  | .list xs, k => k xs
  | _, _ => False
def asT : PyData → (List PyData → Prop) → Prop
  | .tuple xs, k => k xs
  | _, _ => False
def asX : PyData → (Str → Prop) → Prop
  | .str x, k => k x
  | _, _ => False
def asO : Option PyData → (PyData → Prop) → Prop
  | some d, k => k d
  | none, _ => False
/-- data that may be compared: no dict, not too deep -/
def fit (d : PyData) : Bool := d.plain && decide (d.depth ≤ 60)
abbrev LIM : Nat := 1000000
def opD : Op2 → PyData → PyData → (PyData → Prop) → Prop
  | .add, .int i, .int j, p => p (.int (i + j))
  | .add, .tuple xs, .tuple ys, p => xs.length + ys.length ≤ LIM ∧ p (.tuple (xs ++ ys))
  | .add, .list xs, .list ys, p => xs.length + ys.length ≤ LIM ∧ p (.list (xs ++ ys))
  | .add, .str x, .str y, p => x.length + y.length ≤ LIM ∧ p (.str (x ++ y))
  | .sub, .int i, .int j, p => p (.int (i - j))
  | .mul, .int i, .int j, p => L2.CMul i j ∧ p (.int (i * j))
  | .mul, .list xs, .int k, p => (0 ≤ k ∧ k ≤ 1000 ∧ xs.length ≤ 1000) ∧ p (.list (List.replicate k.toNat xs).flatten)
  | .mul, .tuple xs, .int k, p => (xs ≠ [] ∧ 2 ≤ k ∧ k ≤ 1000 ∧ xs.length ≤ 1000) ∧ p (.tuple (List.replicate k.toNat xs).flatten)
  | .mod, .int i, .int j, p => 0 < j ∧ p (.int (i % j))
  | .fdiv, .int i, .int j, p => L2.CDiv i j ∧ p (.int (i / j))
  | _, _, _, _ => False
def cutG {α : Type} (xs : List α) (lo hi : Option Int) : List α := (xs.drop (HT.sIx xs.length 0 lo)).take (HT.sIx xs.length xs.length hi - HT.sIx xs.length 0 lo)
/-- a slice's part; left out, or an int -/
def asP : Bool → PyData → (Option Int → Prop) → Prop
  | true, _, k => k none
  | false, .int i, k => k (some i)
  | _, _, _ => False
@[simp] def isNo : CE → Bool
  | .cst .none => true
  | _ => false
def isTrueD : PyData → Bool
  | .bool b => b
  | _ => false
def isBoolD : PyData → Bool
  | .bool _ => true
  | _ => false
def isNoneD : PyData → Bool
  | .none => true
  | _ => false
def isBD : PyData → Bool → Bool
  | .bool c, b => c == b
  | _, _ => false
/-- x is y, for y None, True or False -/
def isD : PyData → PyData → (Bool → Prop) → Prop
  | x, .none, p => p (isNoneD x)
  | x, .bool b, p => p (isBD x b)
  | _, _, _ => False
def memD (x : PyData) (xs : List PyData) : Bool := xs.any fun y => PyData.eqv y x
/-- what a dict holds at a text -/
def getD : List (PyData × PyData) → Str → Option PyData
  | [], _ => none
  | (.str y, d) :: r, x => if y = x then some d else getD r x
  | _ :: r, x => getD r x
def inD : PyData → PyData → (Bool → Prop) → Prop
  | x, .list xs, p => (fit x && fit (.list xs)) = true ∧ p (memD x xs)
  | x, .tuple xs, p => (fit x && fit (.tuple xs)) = true ∧ p (memD x xs)
  | x, .str z, p => asX x fun y => y.cps.size = 1 ∧ p (decide (y.cps.getD 0 0 ∈ z.cps.toList))
  | x, .dict kvs, p => asX x fun y => p (getD kvs y).isSome
  | _, _, _ => False
def ixD : PyData → PyData → (PyData → Prop) → Prop
  | .list xs, y, p => asI y fun j => asO (L2.atI xs j) p
  | .tuple xs, y, p => asI y fun j => asO (L2.atI xs j) p
  | .dict kvs, y, p => asX y fun x => asO (getD kvs x) p
  | _, _, _ => False
/-- pairs, a text first -/
def pairsD : List PyData → (List (Str × PyData) → Prop) → Prop
  | [], k => k []
  | .tuple [.str x, d] :: r, k => pairsD r fun l => k ((x, d) :: l)
  | _ :: _, _ => False
def encP (l : List (Str × PyData)) : List (PyData × PyData) := l.map fun p => (.str p.1, p.2)
@[simp] def cmpD : Cmp → PyData → PyData → (Bool → Prop) → Prop
  | .eq, x, y, p => (fit x && fit y) = true ∧ p (PyData.eqv x y)
  | .ne, x, y, p => (fit x && fit y) = true ∧ p (!PyData.eqv x y)
  | .lt, x, y, p => asI x fun i => asI y fun j => p (decide (i < j))
  | .le, x, y, p => asI x fun i => asI y fun j => p (decide (i ≤ j))
  | .gt, x, y, p => asI x fun i => asI y fun j => p (decide (j < i))
  | .ge, x, y, p => asI x fun i => asI y fun j => p (decide (j ≤ i))
  | .is_, x, y, p => isD x y p
  | .isn, x, y, p => isD x y fun b => p (!b)
  | .in_, x, y, p => inD x y p
  | .nin, x, y, p => inD x y fun b => p (!b)
def lenD : PyData → (Nat → Prop) → Prop
  | .str x, p => x.length ≤ LIM ∧ p x.length
  | .list xs, p => p xs.length
  | .tuple xs, p => p xs.length
  | _, _ => False
/-- what may be put in order: alike, no None, not too deep -/
def ordOk (xs : List PyData) : Prop := W.AlikeAll xs ∧ PyData.depthAll xs ≤ 60 ∧ PyData.plainAll xs = true
def srtD (xs : List PyData) : List PyData := xs.mergeSort (W.dataLe false id)
def headOr : List PyData → (PyData → List PyData → Prop) → Prop
  | [], _ => False
  | x :: r, k => k x r
@[simp] def absI (i : Int) : Int := if i < 0 then -i else i
def one : List PyData → (PyData → Prop) → Prop
  | [d], k => k d
  | _, _ => False
def intD : PyData → (PyData → Prop) → Prop
  | .int i, p => p (.int i)
  | .bool b, p => p (.int (if b then 1 else 0))
  | _, _ => False
def isIntT : PyData → Bool
  | .int _ => true
  | _ => false
def isStrT : PyData → Bool
  | .str _ => true
  | _ => false
def toI : PyData → Int
  | .int i => i
  | _ => 0
@[simp] def primD : Prim → List PyData → (PyData → Prop) → Prop
  | .len, ds, p => one ds fun d => lenD d fun n => p (.int n)
  | .mn, ds, p => one ds fun d => asS d fun xs => headOr xs fun x r => ordOk (x :: r) ∧ p (W.minD x r)
  | .mx, ds, p => one ds fun d => asS d fun xs => headOr xs fun x r => ordOk (x :: r) ∧ p (W.maxD x r)
  | .abs, ds, p => one ds fun d => asI d fun i => p (.int (absI i))
  | .srt, ds, p => one ds fun d => asS d fun xs => (ordOk xs ∧ W.Sortable xs) ∧ p (.list (srtD xs))
  | .tup, ds, p => one ds fun d => asS d fun xs => p (.tuple xs)
  | .lst, ds, p => one ds fun d => asS d fun xs => p (.list xs)
  | .int, ds, p => one ds fun d => intD d p
  | .all, ds, p => one ds fun d => asS d fun xs => xs.all isBoolD = true ∧ p (.bool (xs.all isTrueD))
  | .any, ds, p => one ds fun d => asS d fun xs => xs.all isBoolD = true ∧ p (.bool (xs.any isTrueD))
  | .sum, ds, p => one ds fun d => asL d fun xs => xs.all isIntT = true ∧ p (.int (xs.map toI).sum)
  | .dct, ds, p => one ds fun d => asS d fun xs => pairsD xs fun l => (l.map (·.1)).Nodup ∧ p (.dict (encP l))
/-- the classes of isinstance: 0 tuple, 1 int, 2 bool, 3 str, 4 list, 5 dict -/
def isaD (t : Nat) : PyData → Bool
  | .tuple _ => t == 0
  | .int _ => t == 1
  | .bool _ => t == 1 || t == 2
  | .str _ => t == 3
  | .list _ => t == 4
  | .dict _ => t == 5
  | .none => false
/-- a tuple of ints -/
def intsT : PyData → Bool
  | .tuple xs => xs.all isIntT
  | _ => false
/-- the signs of a text -/
def signsD (z : Str) : List PyData := z.cps.toList.map fun c => .str ⟨#[c]⟩
/-- how many unlike ones -/
def unlike : List PyData → Nat
  | [] => 0
  | x :: r => if memD x r then unlike r else unlike r + 1
/-- the places in the order of what stands there -/
def asortD (xs : List PyData) : List PyData := ((List.range xs.length).mergeSort (W.dataLe false fun k => xs.getD k .none)).map fun (k : Nat) => .int (k : Int)
mutual
/-- no list within -/
def noLst : PyData → Bool
  | .list _ => false
  | .tuple xs => noLsts xs
  | .dict _ => false
  | _ => true
def noLsts : List PyData → Bool
  | [] => true
  | x :: r => noLst x && noLsts r
end
def cutD : PyData → Option Int → Option Int → (PyData → Prop) → Prop
  | .list xs, l, h, p => p (.list (cutG xs l h))
  | .tuple xs, l, h, p => p (.tuple (cutG xs l h))
  | _, _, _, _ => False

/-! ### names -/
def slotV : Option Slot → (PyData → Prop) → Prop
  | some (.v d), p => p d
  | _, _ => False
def slotO : Option Slot → (PyData → Prop) → Prop
  | some (.own d), p => p d
  | _, _ => False
def slotS : Option Slot → (Slot → Prop) → Prop
  | some .st, p => p .st
  | _, _ => False
@[simp] def setAll : List Nat → List PyData → Env → Env
  | i :: is, d :: ds, ρ => setAll is ds (ρ.set i (.v d))
  | _, _, ρ => ρ
@[simp] def setTg : Tg → PyData → Env → (Env → Prop) → Prop
  | .nm i, d, ρ, k => k (ρ.set i (.v d))
  | .tp is, d, ρ, k => asT d fun ds => ds.length = is.length ∧ k (setAll is ds ρ)
@[simp] def tgs : Tg → List Nat
  | .nm i => [i]
  | .tp is => is
@[simp] def wipeE : Env → List Nat → Env
  | ρ, [] => ρ
  | ρ, i :: is => (wipeE ρ is).set i .un
section
variable {b c : Bool} {i j : Int} {x y : Str} {xs ys : List PyData} {d u : PyData} {t n : Nat} {kvs : List (PyData × PyData)} {k : PyData → Prop} {kb : Bool → Prop} {ki : Int → Prop} {kn : Nat → Prop} {ks : List PyData → Prop} {kp : Option Int → Prop} {kx : Str → Prop} {kh : PyData → List PyData → Prop} {kl : Slot → Prop} {l h : Option Int}
@[simp] theorem asB_b : asB (.bool b) kb = kb b := rfl
@[simp] theorem asI_i : asI (.int i) ki = ki i := rfl
@[simp] theorem asS_l : asS (.list xs) ks = ks xs := rfl
@[simp] theorem asS_t : asS (.tuple xs) ks = ks xs := rfl
@[simp] theorem asL_l : asL (.list xs) ks = ks xs := rfl
@[simp] theorem asT_t : asT (.tuple xs) ks = ks xs := rfl
@[simp] theorem asX_s : asX (.str x) kx = kx x := rfl
@[simp] theorem inD_l : inD d (.list xs) kb = ((fit d && fit (.list xs)) = true ∧ kb (memD d xs)) := rfl
@[simp] theorem inD_t : inD d (.tuple xs) kb = ((fit d && fit (.tuple xs)) = true ∧ kb (memD d xs)) := rfl
@[simp] theorem inD_s : inD d (.str x) kb = asX d fun y => y.cps.size = 1 ∧ kb (decide (y.cps.getD 0 0 ∈ x.cps.toList)) := rfl
@[simp] theorem inD_d : inD d (.dict kvs) kb = asX d fun y => kb (getD kvs y).isSome := rfl
@[simp] theorem ixD_l : ixD (.list xs) d k = asI d fun j => asO (L2.atI xs j) k := rfl
@[simp] theorem ixD_t : ixD (.tuple xs) d k = asI d fun j => asO (L2.atI xs j) k := rfl
@[simp] theorem ixD_d : ixD (.dict kvs) d k = asX d fun x => asO (getD kvs x) k := rfl
@[simp] theorem lenD_s : lenD (.str x) kn = (x.length ≤ LIM ∧ kn x.length) := rfl
@[simp] theorem toI_i : toI (.int i) = i := rfl
@[simp] theorem isStrT_s : isStrT (.str x) = true := rfl
@[simp] theorem asO_s : asO (some d) k = k d := rfl
@[simp] theorem opD_add : opD .add (.int i) (.int j) k = k (.int (i + j)) := rfl
@[simp] theorem opD_addt : opD .add (.tuple xs) (.tuple ys) k = (xs.length + ys.length ≤ LIM ∧ k (.tuple (xs ++ ys))) := rfl
@[simp] theorem opD_addl : opD .add (.list xs) (.list ys) k = (xs.length + ys.length ≤ LIM ∧ k (.list (xs ++ ys))) := rfl
@[simp] theorem opD_adds : opD .add (.str x) (.str y) k = (x.length + y.length ≤ LIM ∧ k (.str (x ++ y))) := rfl
@[simp] theorem opD_sub : opD .sub (.int i) (.int j) k = k (.int (i - j)) := rfl
@[simp] theorem opD_mul : opD .mul (.int i) (.int j) k = (L2.CMul i j ∧ k (.int (i * j))) := rfl
@[simp] theorem opD_mull : opD .mul (.list xs) (.int i) k = ((0 ≤ i ∧ i ≤ 1000 ∧ xs.length ≤ 1000) ∧ k (.list (List.replicate i.toNat xs).flatten)) := rfl
@[simp] theorem opD_mult : opD .mul (.tuple xs) (.int i) k = ((xs ≠ [] ∧ 2 ≤ i ∧ i ≤ 1000 ∧ xs.length ≤ 1000) ∧ k (.tuple (List.replicate i.toNat xs).flatten)) := rfl
@[simp] theorem opD_mod : opD .mod (.int i) (.int j) k = (0 < j ∧ k (.int (i % j))) := rfl
@[simp] theorem opD_fdiv : opD .fdiv (.int i) (.int j) k = (L2.CDiv i j ∧ k (.int (i / j))) := rfl
@[simp] theorem asP_n : asP true d kp = kp none := rfl
@[simp] theorem asP_i : asP false (.int i) kp = kp (some i) := rfl
@[simp] theorem isTrueD_n : isTrueD .none = false := rfl
@[simp] theorem isBoolD_n : isBoolD .none = false := rfl
@[simp] theorem isNoneD_n : isNoneD .none = true := rfl
@[simp] theorem isBD_n : isBD .none c = false := rfl
@[simp] theorem isaD_n : isaD t .none = false := rfl
@[simp] theorem isIntT_n : isIntT .none = false := rfl
@[simp] theorem isTrueD_b : isTrueD (.bool b) = b := rfl
@[simp] theorem isBoolD_b : isBoolD (.bool b) = true := rfl
@[simp] theorem isNoneD_b : isNoneD (.bool b) = false := rfl
@[simp] theorem isBD_b : isBD (.bool b) c = (b == c) := rfl
@[simp] theorem isaD_b : isaD t (.bool b) = (t == 1 || t == 2) := rfl
@[simp] theorem isIntT_b : isIntT (.bool b) = false := rfl
@[simp] theorem isTrueD_i : isTrueD (.int i) = false := rfl
@[simp] theorem isBoolD_i : isBoolD (.int i) = false := rfl
@[simp] theorem isNoneD_i : isNoneD (.int i) = false := rfl
@[simp] theorem isBD_i : isBD (.int i) c = false := rfl
@[simp] theorem isaD_i : isaD t (.int i) = (t == 1) := rfl
@[simp] theorem isIntT_i : isIntT (.int i) = true := rfl
@[simp] theorem isTrueD_s : isTrueD (.str x) = false := rfl
@[simp] theorem isBoolD_s : isBoolD (.str x) = false := rfl
@[simp] theorem isNoneD_s : isNoneD (.str x) = false := rfl
@[simp] theorem isBD_s : isBD (.str x) c = false := rfl
@[simp] theorem isaD_s : isaD t (.str x) = (t == 3) := rfl
@[simp] theorem isIntT_s : isIntT (.str x) = false := rfl
@[simp] theorem isTrueD_l : isTrueD (.list xs) = false := rfl
@[simp] theorem isBoolD_l : isBoolD (.list xs) = false := rfl
@[simp] theorem isNoneD_l : isNoneD (.list xs) = false := rfl
@[simp] theorem isBD_l : isBD (.list xs) c = false := rfl
@[simp] theorem isaD_l : isaD t (.list xs) = (t == 4) := rfl
@[simp] theorem isIntT_l : isIntT (.list xs) = false := rfl
@[simp] theorem isTrueD_t : isTrueD (.tuple xs) = false := rfl
@[simp] theorem isBoolD_t : isBoolD (.tuple xs) = false := rfl
@[simp] theorem isNoneD_t : isNoneD (.tuple xs) = false := rfl
@[simp] theorem isBD_t : isBD (.tuple xs) c = false := rfl
@[simp] theorem isaD_t : isaD t (.tuple xs) = (t == 0) := rfl
@[simp] theorem isIntT_t : isIntT (.tuple xs) = false := rfl
@[simp] theorem isTrueD_d : isTrueD (.dict kvs) = false := rfl
@[simp] theorem isBoolD_d : isBoolD (.dict kvs) = false := rfl
@[simp] theorem isNoneD_d : isNoneD (.dict kvs) = false := rfl
@[simp] theorem isBD_d : isBD (.dict kvs) c = false := rfl
@[simp] theorem isaD_d : isaD t (.dict kvs) = (t == 5) := rfl
@[simp] theorem isIntT_d : isIntT (.dict kvs) = false := rfl
@[simp] theorem isD_n : isD d .none kb = kb (isNoneD d) := rfl
@[simp] theorem isD_b : isD d (.bool b) kb = kb (isBD d b) := rfl
@[simp] theorem lenD_l : lenD (.list xs) kn = kn xs.length := rfl
@[simp] theorem lenD_t : lenD (.tuple xs) kn = kn xs.length := rfl
@[simp] theorem headOr_c : headOr (d :: xs) kh = kh d xs := rfl
@[simp] theorem one_1 : one [d] k = k d := rfl
@[simp] theorem intD_i : intD (.int i) k = k (.int i) := rfl
@[simp] theorem intD_b : intD (.bool b) k = k (.int (if b then 1 else 0)) := rfl
@[simp] theorem intsT_t : intsT (.tuple xs) = xs.all isIntT := rfl
@[simp] theorem cutD_l : cutD (.list xs) l h k = k (.list (cutG xs l h)) := rfl
@[simp] theorem cutD_t : cutD (.tuple xs) l h k = k (.tuple (cutG xs l h)) := rfl
@[simp] theorem slotV_v : slotV (some (.v d)) k = k d := rfl
@[simp] theorem slotO_o : slotO (some (.own d)) k = k d := rfl
@[simp] theorem slotS_s : slotS (some .st) kl = kl .st := rfl
end
/-- a comprehension: each item gives a list -/
def cmpF (F : PyData → (List PyData → Prop) → Prop) : List PyData → (List PyData → Prop) → Prop
  | [], p => p []
  | a :: as, p => F a fun r => cmpF F as fun ds => p (r ++ ds)
def range (lo : Int) (n : Nat) : List PyData := (List.range n).map fun (k : Nat) => .int (lo + (k : Int))
/-- with the length that is there already -/
def cmpN (F : Nat → PyData → (List PyData → Prop) → Prop) : Nat → List PyData → (List PyData → Prop) → Prop
  | _, [], p => p []
  | n, a :: as, p => F n a fun r => cmpN F (n + r.length) as fun ds => p (r ++ ds)
abbrev Orc := Nat → List Slot → (PyData → List Slot → Prop) → (Ex → List Slot → Prop) → Prop
abbrev noE : Ex → Prop := fun _ => False
section
variable (C : Orc)
mutual
@[simp] def evE : CE → Env → (PyData → Prop) → (Ex → Prop) → Prop
  | .cst d, _, p, _ => p d
  | .nm i, ρ, p, _ => slotV ρ[i]? p
  | .bo i, ρ, p, _ => slotO ρ[i]? p
  | .stn _, _, _, _ => False
  | .gl _ _ d, _, p, _ => p d
  | .neg a, ρ, p, e => evE a ρ (fun x => asI x fun i => p (.int (-i))) e
  | .bin o a b, ρ, p, e => evE a ρ (fun x => evE b ρ (fun y => opD o x y p) e) e
  | .cmp o a b, ρ, p, e => evE a ρ (fun x => evE b ρ (fun y => cmpD o x y fun c => p (.bool c)) e) e
  | .chn o o' a b c, ρ, p, e => evE a ρ (fun x => evE b ρ (fun y => cmpD o x y fun z => if z = true then evE c ρ (fun w => cmpD o' y w fun c => p (.bool c)) e else p (.bool false)) e) e
  | .and a b, ρ, p, e => evE a ρ (fun x => asB x fun c => if c = true then evE b ρ p e else p (.bool false)) e
  | .or a b, ρ, p, e => evE a ρ (fun x => asB x fun c => if c = true then p (.bool true) else evE b ρ p e) e
  | .not a, ρ, p, e => evE a ρ (fun x => asB x fun c => p (.bool (!c))) e
  | .ife t a b, ρ, p, e => evE t ρ (fun x => asB x fun c => if c = true then evE a ρ p e else evE b ρ p e) e
  | .tup es, ρ, p, e => evEs es ρ (fun ds => p (.tuple ds)) e
  | .lst es, ρ, p, e => evEs es ρ (fun ds => p (.list ds)) e
  | .idx a i, ρ, p, e => evE a ρ (fun x => evE i ρ (fun y => ixD x y p) e) e
  | .sl a lo hi, ρ, p, e => evE a ρ (fun x => evE lo ρ (fun l => asP (isNo lo) l fun l => evE hi ρ (fun h => asP (isNo hi) h fun h => cutD x l h p) e) e) e
  | .slp a k, ρ, p, e => evE a ρ (fun x => asT x fun xs => (stepG k xs).length ≤ LIM ∧ p (.tuple (stepG k xs))) e
  | .cab i f es, ρ, p, _ => slotO ρ[i]? fun d => evAr es (ρ.set i (.v d)) (fun sl => C f sl (fun r _ => noLst r = true ∧ p r) fun _ _ => False) fun _ => False
  | .call f es, ρ, p, e => evAr es ρ (fun sl => C f sl (fun d _ => p d) fun x _ => e x) e
  | .prim q es, ρ, p, e => evEs es ρ (fun ds => primD q ds p) e
  | .isa t a, ρ, p, e => evE a ρ (fun x => p (.bool (isaD t x))) e
  | .lenset a, ρ, p, e => evE a ρ (fun x => asL x fun xs => (xs.all intsT = true ∨ xs.all isStrT = true) ∧ xs.length ≤ 60 ∧ p (.int (unlike xs))) e
  | .rng t a, ρ, p, e => evE a ρ (fun x => asI x fun n => (-LIM ≤ n ∧ n ≤ LIM) ∧ p (if t = true then .tuple (range 0 n.toNat) else .list (range 0 n.toNat))) e
  | .comp elt tg it t, ρ, p, e => evI it ρ (fun as => cmpF (fun a k => setTg tg a (wipeE ρ (tgs tg)) fun ρ1 => evE t ρ1 (fun c => asB c fun c => if c = true then evE elt ρ1 (fun d => k [d]) noE else k []) noE) as fun ds => p (.list ds)) e
  | .comp2 elt tg it t tg1 it1 t1, ρ, p, e => evI it ρ (fun as => cmpN (fun n a k => setTg tg a (wipeE ρ (tgs tg ++ tgs tg1)) fun ρ1 => evE t ρ1 (fun c => asB c fun c => if c = true then
      evI it1 ρ1 (fun as1 => n + as1.length ≤ LIM ∧ cmpF (fun a1 k1 => setTg tg1 a1 (wipeE ρ1 (tgs tg1)) fun ρ2 => evE t1 ρ2 (fun c => asB c fun c => if c = true then evE elt ρ2 (fun d => k1 [d]) noE else k1 []) noE) as1 k) noE
      else k []) noE) 0 as fun ds => p (.list ds)) e
@[simp] def evEs : CEs → Env → (List PyData → Prop) → (Ex → Prop) → Prop
  | .nil, _, p, _ => p []
  | .cons a es, ρ, p, e => evE a ρ (fun x => evEs es ρ (fun xs => p (x :: xs)) e) e
@[simp] def evAr : CEs → Env → (List Slot → Prop) → (Ex → Prop) → Prop
  | .nil, _, p, _ => p []
  | .cons a es, ρ, p, e => match a with
    | .stn i => slotS ρ[i]? fun s => evAr es ρ (fun xs => p (s :: xs)) e
    | a => evE a ρ (fun x => evAr es ρ (fun xs => p (.v x :: xs)) e) e
@[simp] def evI : CI → Env → (List PyData → Prop) → (Ex → Prop) → Prop
  | .seq a, ρ, p, e => evE a ρ (fun x => asS x p) e
  | .rng a, ρ, p, e => evE a ρ (fun x => asI x fun n => (-LIM ≤ n ∧ n ≤ LIM) ∧ p (range 0 n.toNat)) e
  | .rng2 a b, ρ, p, e => evE a ρ (fun x => evE b ρ (fun y => asI x fun i => asI y fun j => (-LIM ≤ i ∧ i ≤ LIM ∧ -LIM ≤ j ∧ j ≤ LIM) ∧ p (range i (j - i).toNat)) e) e
  | .chr a, ρ, p, e => evE a ρ (fun x => asX x fun z => z.length ≤ LIM ∧ p (signsD z)) e
end
end
end Pv
set_option Elab.async false
set_option linter.all false
set_option maxRecDepth 100000
/-! Core 1: statements and functions, and what they mean over plain data. Own work. -/
namespace Pv
open PySem

mutual
inductive CS where
  /-- name = e -/
  | set (i : Nat) (e : CE)
  /-- name = e, a new list that the name alone holds from then on -/
  | own (i : Nat) (e : CE)
  /-- name = f(e), the law's drawing state -/
  | mks (i : Nat) (f : Nat) (e : CE)
  /-- a, b, .. = e, a tuple -/
  | unp (is : List Nat) (e : CE)
  /-- a, b = x, y and a, b, c = x, y, z by local names -/
  | par (is : List (Nat × Bool)) (es : CEs)
  | aug (o : Op2) (i : Nat) (e : CE)
  | app (i : Nat) (e : CE)
  | ext (i : Nat) (e : CE)
  /-- x.append(tuple(sorted(range(len(y)), key=lambda k: y[k]))) -/
  | apps (i j : Nat)
  | seti (i : Nat) (a e : CE)
  | pop (j i : Nat) (a : CE)
  | ex (e : CE)
  | ret (e : CE)
  | ifs (t : CE) (a b : CSs)
  | whl (t : CE) (b : CSs)
  | fors (tg : Tg) (it : CI) (b : CSs) (ws : List Nat)
  | brk
  | cont
  /-- no row of the text: a list that a name alone held is from now on a value -/
  | frz (i : Nat)
  /-- raise C(e) -/
  | rai (c : Nat) (e : CE)
  /-- a row that is never come to -/
  | never
inductive CSs where
  | nil
  | cons (s : CS) (ss : CSs)
end
inductive Fl where
  | nx (ρ : Env)
  | rt (d : PyData) (ρ : Env)
  | bk (ρ : Env)
  | ct (ρ : Env)
def asN : Option Nat → (Nat → Prop) → Prop
  | some n, k => k n
  | none, _ => False
/-- what follows a turn of a loop: nx, at the end bk -/
def turnK (nx bk : Env → Prop) (rt : PyData → Env → Prop) : Fl → Prop
  | .nx ρ => nx ρ
  | .ct ρ => nx ρ
  | .bk ρ => bk ρ
  | .rt d ρ => rt d ρ
/-- what follows a row -/
def seqK (nx : Env → Prop) (p : Fl → Prop) : Fl → Prop
  | .nx ρ => nx ρ
  | .rt d ρ => p (.rt d ρ)
  | .bk ρ => p (.bk ρ)
  | .ct ρ => p (.ct ρ)
section
variable {n : Nat} {kn : Nat → Prop} {f g : Env → Prop} {r : PyData → Env → Prop} {ρ : Env} {p : Fl → Prop} {d : PyData}
@[simp] theorem asN_s : asN (some n) kn = kn n := rfl
@[simp] theorem turnK_n : turnK f g r (.nx ρ) = f ρ := rfl
@[simp] theorem turnK_c : turnK f g r (.ct ρ) = f ρ := rfl
@[simp] theorem turnK_b : turnK f g r (.bk ρ) = g ρ := rfl
@[simp] theorem turnK_r : turnK f g r (.rt d ρ) = r d ρ := rfl
@[simp] theorem seqK_n : seqK f p (.nx ρ) = f ρ := rfl
@[simp] theorem seqK_r : seqK f p (.rt d ρ) = p (.rt d ρ) := rfl
@[simp] theorem seqK_b : seqK f p (.bk ρ) = p (.bk ρ) := rfl
@[simp] theorem seqK_c : seqK f p (.ct ρ) = p (.ct ρ) := rfl
end
/-- a loop over given items -/
def forL (tg : Tg) (ws : List Nat) (B : Env → (Fl → Prop) → Prop) : List PyData → Env → (Fl → Prop) → Prop
  | [], ρ, p => p (.nx ρ)
  | a :: as, ρ, p => setTg tg a ρ fun ρ1 => B ρ1 (turnK (fun ρ2 => forL tg ws B as (wipeE ρ2 ws) p) (fun ρ2 => p (.nx (wipeE ρ2 ws))) fun d ρ2 => p (.rt d ρ2))
def setsL : List (Nat × Bool) → List PyData → Env → (Env → Prop) → Prop
  | [], [], ρ, k => k ρ
  | i :: is, d :: ds, ρ, k => setsL is ds (ρ.set i.1 (if i.2 = true then .own d else .v d)) k
  | _, _, _, _ => False
section
variable (C : Orc)
mutual
@[simp] def evS : CS → Env → (Fl → Prop) → (Ex → Env → Prop) → Prop
  | .set i a, ρ, p, e => evE C a ρ (fun d => p (.nx (ρ.set i (.v d)))) fun x => e x ρ
  | .own i a, ρ, p, e => evE C a ρ (fun d => asL d fun xs => p (.nx (ρ.set i (.own (.list xs))))) fun x => e x ρ
  | .mks i _ a, ρ, p, e => evE C a ρ (fun d => asL d fun xs => (xs.all isIntT = true ∧ xs.length ≤ 63) ∧ p (.nx (ρ.set i .st))) fun x => e x ρ
  | .unp is a, ρ, p, e => evE C a ρ (fun d => asT d fun xs => xs.length = is.length ∧ p (.nx (setAll is xs ρ))) fun x => e x ρ
  | .par is es, ρ, p, e => evEs C es ρ (fun ds => setsL is ds ρ fun ρ1 => p (.nx ρ1)) fun x => e x ρ
  | .aug o i a, ρ, p, e => slotV ρ[i]? fun x => evE C a ρ (fun y => asI x fun m => asI y fun n => opD o (.int m) (.int n) fun d => p (.nx (ρ.set i (.v d)))) fun x => e x ρ
  | .app i a, ρ, p, e => slotO ρ[i]? fun o => asL o fun xs => evE C a ρ (fun d => xs.length < LIM ∧ p (.nx (ρ.set i (.own (.list (xs ++ [d])))))) fun x => e x ρ
  | .ext i a, ρ, p, e => slotO ρ[i]? fun o => asL o fun xs => evE C a ρ (fun d => asL d fun ys => xs.length + ys.length ≤ LIM ∧ p (.nx (ρ.set i (.own (.list (xs ++ ys)))))) fun x => e x ρ
  | .apps i j, ρ, p, _ => slotO ρ[i]? fun o => asL o fun xs => slotV ρ[j]? fun d => asS d fun ys => (ordOk ys ∧ PySem.W.Sortable ys ∧ noLsts ys = true ∧ ys.length ≤ LIM) ∧ xs.length < LIM ∧ p (.nx (ρ.set i (.own (.list (xs ++ [.tuple (asortD ys)])))))
  | .seti i a b, ρ, p, e => evE C b ρ (fun d => slotO ρ[i]? fun o => asL o fun xs => evE C a ρ (fun k => asI k fun n => asN (L2.ixN xs.length n) fun j => p (.nx (ρ.set i (.own (.list (xs.set j d)))))) fun x => e x ρ) fun x => e x ρ
  | .pop j i a, ρ, p, e => False
  | .ex a, ρ, p, e => evE C a ρ (fun _ => p (.nx ρ)) fun x => e x ρ
  | .ret a, ρ, p, e => evE C a ρ (fun d => p (.rt d ρ)) fun x => e x ρ
  | .ifs t a b, ρ, p, e => evE C t ρ (fun x => asB x fun c => if c = true then evSs a ρ p e else evSs b ρ p e) fun x => e x ρ
  | .whl t b, ρ, p, e => ∃ W : Nat → Env → Prop, (∃ n, W n ρ) ∧ ∀ n ρ, W n ρ → evE C t ρ (fun x => asB x fun c => if c = true then evSs b ρ (turnK (fun ρ2 => ∃ m, m < n ∧ W m ρ2) (fun ρ2 => p (.nx ρ2)) fun d ρ2 => p (.rt d ρ2)) e else p (.nx ρ)) fun x => e x ρ
  | .fors tg it b ws, ρ, p, e => evI C it ρ (fun as => forL tg ws (fun ρ1 q => evSs b ρ1 q e) as ρ p) fun x => e x ρ
  | .brk, ρ, p, _ => p (.bk ρ)
  | .cont, ρ, p, _ => p (.ct ρ)
  | .frz i, ρ, p, _ => slotO ρ[i]? fun d => p (.nx (ρ.set i (.v d)))
  | .rai c a, ρ, _, e => evE C a ρ (fun d => e ⟨c, d⟩ ρ) fun x => e x ρ
  | .never, _, _, _ => False
@[simp] def evSs : CSs → Env → (Fl → Prop) → (Ex → Env → Prop) → Prop
  | .nil, ρ, p, _ => p (.nx ρ)
  | .cons s ss, ρ, p, e => evS s ρ (seqK (fun ρ1 => evSs ss ρ1 p e) p) e
end
end
@[simp] theorem setsL_n (ρ k) : setsL [] [] ρ k = k ρ := rfl
@[simp] theorem setsL_c (i b is d ds ρ k) : setsL ((i, b) :: is) (d :: ds) ρ k = setsL is ds (ρ.set i (if b = true then .own d else .v d)) k := rfl
/-- a function: its name, its parameters, all its names, its body; take: the law's drawing -/
inductive FnK where
  | code (body : CSs)
  | take
structure FnI where
  name : Str
  ps : List Str
  ns : List Str
  k : FnK
/-- the end of a body -/
def endF (n : Nat) (p : PyData → List Slot → Prop) : Fl → Prop
  | .rt d ρ => p d (ρ.take n)
  | .nx ρ => p .none (ρ.take n)
  | _ => False
/-- a function, called, its own calls by C -/
@[simp] theorem endF_r (n p d ρ) : endF n p (.rt d ρ) = p d (ρ.take n) := rfl
@[simp] theorem endF_n (n p ρ) : endF n p (.nx ρ) = p .none (ρ.take n) := rfl
def takeF : List Slot → (PyData → List Slot → Prop) → Prop
  | [.st, .v (.int b)], p => if b < 2 then p (.int 0) [.st, .v (.int b)] else b < 1000000000 ∧ ∀ n : Nat, (n : Int) < b → p (.int n) [.st, .v (.int b)]
  | _, _ => False
def runF (C : Orc) (fi : FnI) (args : List Slot) (p : PyData → List Slot → Prop) (e : Ex → List Slot → Prop) : Prop := match fi.k with
  | .take => takeF args p
  | .code body => args.length = fi.ps.length ∧ evSs C body (args ++ List.replicate (fi.ns.length - fi.ps.length) .un) (endF fi.ps.length p) fun x ρ => e x (ρ.take fi.ps.length)
theorem runF_code (C : Orc) (nm ps ns b args p e) : runF C ⟨nm, ps, ns, .code b⟩ args p e = (args.length = ps.length ∧ evSs C b (args ++ List.replicate (ns.length - ps.length) .un) (endF ps.length p) fun x ρ => e x (ρ.take ps.length)) := rfl
theorem runF_take (C : Orc) (nm ps ns args p e) : runF C ⟨nm, ps, ns, .take⟩ args p e = takeF args p := rfl
/-- a function of the table, called; d: how deep calls may go -/
def callD (T : List FnI) : Nat → Orc
  | 0, _, _, _, _ => False
  | d + 1, f, args, p, e => match T[f]? with
    | none => False
    | some fi => runF (callD T d) fi args p e
theorem callD_s {T : List FnI} {d f : Nat} {fi : FnI} (h : T[f]? = some fi) (args p e) : callD T (d + 1) f args p e = runF (callD T d) fi args p e := by
  simp only [callD, h]
end Pv
set_option Elab.async false
set_option linter.all false
set_option maxRecDepth 100000
set_option maxHeartbeats 2000000
/-! Core 2: which text a compact text stands for; values in the heap. Own work. -/
namespace Pv
open PySem PySem.Spec PyProof.Rows L2

/-! ### which text -/
def visB (S : Scope) (x : Str) : Bool := match S.names.lookup x with
  | some .local => true
  | some .cell => true
  | some .free => true
  | _ => false
def locB (S : Scope) (x : Str) : Bool := match S.names.lookup x with
  | some .local => true
  | some .cell => true
  | _ => false
def loclB (S : Scope) (x : Str) : Bool := match S.names.lookup x with
  | some .local => true
  | _ => false
def glB (S : Scope) (x : Str) : Bool := (match S.names.lookup x with
  | some .globalImplicit => true
  | _ => false) && !(x == ("__debug__" : Str))
def ixB (N : List Str) (i : Nat) (x : Str) : Bool := match N[i]? with
  | some y => decide (y = x)
  | none => false
def nmB (N : List Str) (S : Scope) (i : Nat) (x : Str) : Bool := ixB N i x && (visB S x && (!(x == ("__debug__" : Str)) && !(x == ("__classdict__" : Str))))
def cstB : PyData → Const → Bool
  | .none, .none => true
  | .bool b, .bool c => b == c
  | .int i, .int j => decide (i = j)
  | .str x, .str y => decide (x = y)
  | _, _ => false
def op2O : Op2 → Operator
  | .add => .Add
  | .sub => .Sub
  | .mul => .Mult
  | .mod => .Mod
  | .fdiv => .FloorDiv
def cmpO : Cmp → CmpOp
  | .eq => .Eq
  | .ne => .NotEq
  | .lt => .Lt
  | .le => .LtE
  | .gt => .Gt
  | .ge => .GtE
  | .is_ => .Is
  | .isn => .IsNot
  | .in_ => .In
  | .nin => .NotIn
def primN : Prim → Str
  | .len => "len"
  | .mn => "min"
  | .mx => "max"
  | .abs => "abs"
  | .srt => "sorted"
  | .tup => "tuple"
  | .lst => "list"
  | .int => "int"
  | .all => "all"
  | .any => "any"
  | .sum => "sum"
  | .dct => "dict"
def isaN : Nat → Str
  | 0 => "tuple"
  | 1 => "int"
  | 2 => "bool"
  | 3 => "str"
  | 4 => "list"
  | _ => "dict"
def isYes : CE → Bool
  | .cst (.bool true) => true
  | _ => false
def chC (X : Bool) (k : Bool) : Bool := X && k
def celB (S : Scope) (x : Str) : Bool := match S.names.lookup x with
  | some .cell => true
  | _ => false
/-- a name that is stored; raw: the block's own scope -/
def stoB (N : List Str) (S raw : Scope) (i : Nat) (x : Str) : Bool := ixB N i x && (loclB S x || (celB raw x && celB S x))
/-- a target: names with their places -/
def tgB (N : List Str) (S raw : Scope) : Tg → Expr → Bool
  | .nm i, .Name x _ => stoB N S raw i x
  | .tp is, .Tuple es _ _ => tgL is es
  | _, _ => false
where tgL : List Nat → List Expr → Bool
  | [], [] => true
  | i :: is, .Name x _ :: es => stoB N S raw i x && tgL is es
  | _, _ => false
/-- a test: no conditional expression at its top -/
def tstB : CE → Bool
  | .ife _ _ _ => false
  | .and a b => tstB a && tstB b
  | .or a b => tstB a && tstB b
  | .not a => tstB a
  | _ => true
def noBo : CI → Bool
  | .seq (.bo _) => false
  | _ => true
def ownOf (N : List Str) (is : List Nat) : List (Str × Nat) := is.filterMap fun i => (N[i]?).map fun x => (x, i)
mutual
def sameD : PyData → PyData → Bool
  | .none, .none => true
  | .bool a, .bool b => a == b
  | .int a, .int b => decide (a = b)
  | .str a, .str b => decide (a = b)
  | .list a, .list b => sameL a b
  | .tuple a, .tuple b => sameL a b
  | _, _ => false
def sameL : List PyData → List PyData → Bool
  | [], [] => true
  | a :: as, b :: bs => sameD a b && sameL as bs
  | _, _ => false
end
mutual
theorem sameD_eq : ∀ {a b : PyData}, sameD a b = true → a = b
  | .none, .none, _ => rfl
  | .bool a, .bool b, h => by simp [sameD] at h; rw [h]
  | .int a, .int b, h => by simp [sameD] at h; rw [h]
  | .str a, .str b, h => by simp [sameD] at h; rw [h]
  | .list a, .list b, h => by rw [sameD] at h; rw [sameL_eq h]
  | .tuple a, .tuple b, h => by rw [sameD] at h; rw [sameL_eq h]
theorem sameL_eq : ∀ {a b : List PyData}, sameL a b = true → a = b
  | [], [], _ => rfl
  | a :: as, b :: bs, h => by
    rw [sameL, Bool.and_eq_true] at h
    rw [sameD_eq h.1, sameL_eq h.2]
end
def csB (cs : List (Str × PyData)) (k : Nat) (x : Str) (d : PyData) : Bool := match cs[k]? with
  | some (y, d') => decide (y = x) && sameD d' d
  | none => false
theorem csB_inv {cs : List (Str × PyData)} {k : Nat} {x : Str} {d : PyData} (h : csB cs k x d = true) : cs[k]? = some (x, d) := by
  unfold csB at h
  split at h
  · rename_i y d' e
    rw [Bool.and_eq_true] at h
    rw [e, sameD_eq h.2]
    have := h.1
    simp at this
    rw [this]
  · cases h
/-! by form: the parts are asked by f, g, .. -/
def mCst (d : PyData) : Expr → Bool
  | .Constant c _ _ => cstB d c
  | _ => false
def mNm (N : List Str) (S : Scope) (i : Nat) : Expr → Bool
  | .Name x _ => nmB N S i x
  | _ => false
def mGl (cs : List (Str × PyData)) (S : Scope) (k : Nat) (x : Str) (d : PyData) : Expr → Bool
  | .Name y _ => decide (x = y) && (glB S y && csB cs k x d)
  | _ => false
def mNeg (f : Expr → Bool) : Expr → Bool
  | .UnaryOp .USub x _ => f x
  | _ => false
def mNot (f : Expr → Bool) : Expr → Bool
  | .UnaryOp .Not x _ => f x
  | _ => false
def mBin (o : Op2) (f g : Expr → Bool) : Expr → Bool
  | .BinOp x q y _ => decide (op2O o = q) && (f x && g y)
  | _ => false
def mCmp (o : Cmp) (f g : Expr → Bool) : Expr → Bool
  | .Compare x [q] [y] _ => decide (cmpO o = q) && (f x && g y)
  | _ => false
def mChn (o o' : Cmp) (f g h : Expr → Bool) : Expr → Bool
  | .Compare x [q, q'] [y, z] _ => (decide (cmpO o = q) && decide (cmpO o' = q')) && (f x && (g y && h z))
  | _ => false
def mRest (op : BoolOp) (pos : Pos) (g : Expr → Bool) : List Expr → Bool
  | [y] => g y
  | y :: z :: r => g (.BoolOp op (y :: z :: r) pos)
  | [] => false
def mAnd (f g : Expr → Bool) : Expr → Bool
  | .BoolOp .And (x :: xs) pos => f x && mRest .And pos g xs
  | _ => false
def mOr (f g : Expr → Bool) : Expr → Bool
  | .BoolOp .Or (x :: xs) pos => f x && mRest .Or pos g xs
  | _ => false
def mIfe (f g h : Expr → Bool) : Expr → Bool
  | .IfExp x y z _ => f x && (g y && h z)
  | _ => false
def mTup (f : List Expr → Bool) : Expr → Bool
  | .Tuple xs _ _ => f xs
  | _ => false
def mLst (f : List Expr → Bool) : Expr → Bool
  | .List xs _ => f xs
  | _ => false
/-- no slice -/
def noSl : Expr → Bool
  | .Slice _ _ _ _ => false
  | .Starred _ _ => false
  | _ => true
def mIdx (f g : Expr → Bool) : Expr → Bool
  | .Subscript x y _ => f x && (noSl y && g y)
  | _ => false
def mPart (no : Bool) (f : Expr → Bool) : Option Expr → Bool
  | none => no
  | some e => !no && f e
def mSl (f : Expr → Bool) (g h : Option Expr → Bool) : Expr → Bool
  | .Subscript x (.Slice l u none _) _ => f x && (g l && h u)
  | _ => false
/-- a slice's step -/
def stpB (k : Int) : Expr → Bool
  | .Constant (.int j) _ _ => decide (j = k)
  | .UnaryOp .USub (.Constant (.int j) _ _) _ => decide (-j = k)
  | _ => false
def mSlp (k : Int) (f : Expr → Bool) : Expr → Bool
  | .Subscript x (.Slice none none (some u) _) _ => f x && (stpB k u && (!(k == 0) && !(k == 1)))
  | _ => false
def mCall (S : Scope) (nm : Option Str) (f : List Expr → Bool) : Expr → Bool
  | .Call (.Name x _) (y :: ys) [] _ => decide (nm = some x) && (glB S x && f (y :: ys))
  | _ => false
def mIsa (S : Scope) (t : Nat) (f : Expr → Bool) : Expr → Bool
  | .Call (.Name x _) [y, .Name z _] [] _ => (decide (x = ("isinstance" : Str)) && glB S x) && ((decide (isaN t = z) && glB S z) && (decide (t ≤ 5) && f y))
  | _ => false
/-- x(y(z)), two built-in names -/
def mWrap (S : Scope) (x y : Str) (f : Expr → Bool) : Expr → Bool
  | .Call (.Name x' _) [.Call (.Name y' _) [z] [] _] [] _ => (decide (x = x') && glB S x') && ((decide (y = y') && glB S y') && f z)
  | _ => false
def mIfs (yes : Bool) (f : Expr → Bool) : List Expr → Bool
  | [] => yes
  | [c] => f c
  | _ => false
def mComp (N : List Str) (S : Scope) (tg : Tg) (fi : Expr → Bool) (fe ft : Scope → Expr → Bool) (yes : Bool) : Expr → Bool
  | .ListComp x [⟨tg', it', ifs, 0⟩] sc _ => blkC N S sc (ownOf N (tgs tg)) && ((tgB N (relS sc S) sc tg tg' && fi it') && (fe (relS sc S) x && mIfs yes (ft (relS sc S)) ifs))
  | _ => false
def mComp2 (N : List Str) (S : Scope) (tg tg1 : Tg) (fi : Expr → Bool) (fi1 fe ft ft1 : Scope → Expr → Bool) (yes yes1 : Bool) : Expr → Bool
  | .ListComp x [⟨tg', it', ifs, 0⟩, ⟨tg1', it1', ifs1, 0⟩] sc _ => blkC N S sc (ownOf N (tgs tg ++ tgs tg1)) && ((tgB N (relS sc S) sc tg tg' && fi it') && ((tgB N (relS sc S) sc tg1 tg1' && fi1 (relS sc S) it1') &&
      (fe (relS sc S) x && (mIfs yes (ft (relS sc S)) ifs && mIfs yes1 (ft1 (relS sc S)) ifs1))))
  | _ => false
def mRg (S : Scope) (f : Expr → Bool) : Expr → Bool
  | .Call (.Name y _) [z] [] _ => (decide (y = ("range" : Str)) && glB S y) && f z
  | _ => false
def mRg2 (S : Scope) (f g : Expr → Bool) : Expr → Bool
  | .Call (.Name y _) [z, u] [] _ => (decide (y = ("range" : Str)) && glB S y) && (f z && g u)
  | _ => false
def mCons (f : Expr → Bool) (g : List Expr → Bool) : List Expr → Bool
  | x :: xs => f x && g xs
  | [] => false
def isNil : List Expr → Bool
  | [] => true
  | _ => false
section
variable (fns : List Str) (cs : List (Str × PyData)) (N : List Str)
/-- a list that a name alone holds, read -/
def boB (S : Scope) : CE → Expr → Bool
  | .bo i => mNm N S i
  | _ => fun _ => false
/-- the drawing state handed on -/
def stB (S : Scope) : CE → Expr → Bool
  | .stn i => mNm N S i
  | _ => fun _ => false
mutual
def mtE (S : Scope) : CE → Expr → Bool
  | .cst d => mCst d
  | .nm i => mNm N S i
  | .bo _ => fun _ => false
  | .stn _ => fun _ => false
  | .gl k x d => mGl cs S k x d
  | .neg a => mNeg (mtE S a)
  | .bin o a b => mBin o (fun x => boB N S a x || mtE S a x) (fun y => boB N S b y || mtE S b y)
  | .cmp o a b => mCmp o (fun x => boB N S a x || mtE S a x) (fun y => boB N S b y || mtE S b y)
  | .chn o o' a b c => mChn o o' (mtE S a) (mtE S b) (mtE S c)
  | .and a b => mAnd (mtE S a) (mtE S b)
  | .or a b => mOr (mtE S a) (mtE S b)
  | .not a => mNot (mtE S a)
  | .ife t a b => mIfe (fun x => tstB t && mtE S t x) (mtE S a) (mtE S b)
  | .tup es => mTup (fun xs => decide (cesLen es ≤ 1000) && mtEs S es xs)
  | .lst es => mLst (fun xs => decide (cesLen es ≤ 1000) && mtEs S es xs)
  | .idx a i => mIdx (fun x => boB N S a x || mtE S a x) (mtE S i)
  | .sl a lo hi => mSl (fun x => boB N S a x || mtE S a x) (mPart (isNo lo) (mtE S lo)) (mPart (isNo hi) (mtE S hi))
  | .slp a k => mSlp k (mtE S a)
  | .cab _ f es => mCall S fns[f]? (mtAs S es)
  | .call f es => mCall S fns[f]? (mtAs S es)
  | .prim q es => mCall S (some (primN q)) (mtBs S es)
  | .isa t a => mIsa S t (mtE S a)
  | .lenset a => mWrap S "len" "set" (fun x => boB N S a x || mtE S a x)
  | .rng t a => mWrap S (if t = true then ("tuple" : Str) else "list") "range" (mtE S a)
  | .comp elt tg it t => mComp N S tg (mtI S it) (fun S => mtE S elt) (fun S c => tstB t && mtE S t c) (isYes t)
  | .comp2 elt tg it t tg1 it1 t1 => mComp2 N S tg tg1 (mtI S it) (fun S e => noBo it1 && mtI S it1 e) (fun S => mtE S elt) (fun S c => tstB t && mtE S t c) (fun S c => tstB t1 && mtE S t1 c) (isYes t) (isYes t1)
def mtEs (S : Scope) : CEs → List Expr → Bool
  | .nil => isNil
  | .cons a es => mCons (mtE S a) (mtEs S es)
def mtBs (S : Scope) : CEs → List Expr → Bool
  | .nil => isNil
  | .cons a es => mCons (fun x => boB N S a x || mtE S a x) (mtBs S es)
def mtAs (S : Scope) : CEs → List Expr → Bool
  | .nil => isNil
  | .cons a es => mCons (fun x => stB N S a x || mtE S a x) (mtAs S es)
def mtI (S : Scope) : CI → Expr → Bool
  | .seq a => fun x => boB N S a x || mtE S a x
  | .rng a => mRg S (mtE S a)
  | .rng2 a b => mRg2 S (mtE S a) (mtE S b)
  | .chr a => mtE S a
end
end

/-! ### read back -/
section
variable {f g h : Expr → Bool} {e : Expr} {S : Scope} {N : List Str}
theorem both {a b : Bool} (h : (a && b) = true) : a = true ∧ b = true := by simpa using h
theorem dec {p : Prop} [Decidable p] (h : decide p = true) : p := by simpa using h
theorem mCst_inv {d : PyData} (h : mCst d e = true) : ∃ c k p, e = .Constant c k p ∧ cstB d c = true := by
  unfold mCst at h; split at h
  · exact ⟨_, _, _, rfl, h⟩
  · cases h
theorem mNm_inv {i : Nat} (h : mNm N S i e = true) : ∃ x p, e = .Name x p ∧ nmB N S i x = true := by
  unfold mNm at h; split at h
  · exact ⟨_, _, rfl, h⟩
  · cases h
theorem mGl_inv {cs : List (Str × PyData)} {k : Nat} {x : Str} {d : PyData} (h : mGl cs S k x d e = true) : ∃ p, e = .Name x p ∧ glB S x = true ∧ cs[k]? = some (x, d) := by
  unfold mGl at h; split at h
  · obtain ⟨h1, h2⟩ := both h
    obtain ⟨h2, h3⟩ := both h2
    obtain rfl := dec h1
    exact ⟨_, rfl, h2, csB_inv h3⟩
  · cases h
theorem stpB_inv {k : Int} (h : stpB k e = true) : (∃ a p, e = .Constant (.int k) a p) ∨ ∃ j a p q, e = .UnaryOp .USub (.Constant (.int j) a p) q ∧ -j = k := by
  unfold stpB at h; split at h
  · obtain rfl := dec h
    exact .inl ⟨_, _, rfl⟩
  · exact .inr ⟨_, _, _, _, rfl, dec h⟩
  · cases h
theorem mSlp_inv {k : Int} (h : mSlp k f e = true) : ∃ x u p q, e = .Subscript x (.Slice none none (some u) p) q ∧ f x = true ∧ stpB k u = true ∧ k ≠ 0 ∧ k ≠ 1 := by
  unfold mSlp at h; split at h
  · obtain ⟨h1, h2⟩ := both h
    obtain ⟨h2, h3⟩ := both h2
    obtain ⟨h3, h4⟩ := both h3
    exact ⟨_, _, _, _, rfl, h1, h2, by simpa using h3, by simpa using h4⟩
  · cases h
theorem mNeg_inv (h : mNeg f e = true) : ∃ x p, e = .UnaryOp .USub x p ∧ f x = true := by
  unfold mNeg at h; split at h
  · exact ⟨_, _, rfl, h⟩
  · cases h
theorem mNot_inv (h : mNot f e = true) : ∃ x p, e = .UnaryOp .Not x p ∧ f x = true := by
  unfold mNot at h; split at h
  · exact ⟨_, _, rfl, h⟩
  · cases h
theorem mBin_inv {o : Op2} (h : mBin o f g e = true) : ∃ x y p, e = .BinOp x (op2O o) y p ∧ f x = true ∧ g y = true := by
  unfold mBin at h; split at h
  · obtain ⟨h1, h2⟩ := both h
    obtain rfl := dec h1
    exact ⟨_, _, _, rfl, both h2⟩
  · cases h
theorem mCmp_inv {o : Cmp} (h : mCmp o f g e = true) : ∃ x y p, e = .Compare x [cmpO o] [y] p ∧ f x = true ∧ g y = true := by
  unfold mCmp at h; split at h
  · obtain ⟨h1, h2⟩ := both h
    obtain rfl := dec h1
    exact ⟨_, _, _, rfl, both h2⟩
  · cases h
theorem mChn_inv {o o' : Cmp} {k : Expr → Bool} (h : mChn o o' f g k e = true) : ∃ x y z p, e = .Compare x [cmpO o, cmpO o'] [y, z] p ∧ f x = true ∧ g y = true ∧ k z = true := by
  unfold mChn at h; split at h
  · obtain ⟨h1, h2⟩ := both h
    obtain ⟨h1, h3⟩ := both h1
    obtain rfl := dec h1
    obtain rfl := dec h3
    obtain ⟨h2, h4⟩ := both h2
    exact ⟨_, _, _, _, rfl, h2, both h4⟩
  · cases h
theorem mAnd_inv (h : mAnd f g e = true) : ∃ x xs p, e = .BoolOp .And (x :: xs) p ∧ f x = true ∧ mRest .And p g xs = true := by
  unfold mAnd at h; split at h
  · exact ⟨_, _, _, rfl, both h⟩
  · cases h
theorem mOr_inv (h : mOr f g e = true) : ∃ x xs p, e = .BoolOp .Or (x :: xs) p ∧ f x = true ∧ mRest .Or p g xs = true := by
  unfold mOr at h; split at h
  · exact ⟨_, _, _, rfl, both h⟩
  · cases h
theorem mIfe_inv {k : Expr → Bool} (h : mIfe f g k e = true) : ∃ x y z p, e = .IfExp x y z p ∧ f x = true ∧ g y = true ∧ k z = true := by
  unfold mIfe at h; split at h
  · obtain ⟨h1, h2⟩ := both h
    exact ⟨_, _, _, _, rfl, h1, both h2⟩
  · cases h
theorem mTup_inv {k : List Expr → Bool} (h : mTup k e = true) : ∃ xs c p, e = .Tuple xs c p ∧ k xs = true := by
  unfold mTup at h; split at h
  · exact ⟨_, _, _, rfl, h⟩
  · cases h
theorem mLst_inv {k : List Expr → Bool} (h : mLst k e = true) : ∃ xs p, e = .List xs p ∧ k xs = true := by
  unfold mLst at h; split at h
  · exact ⟨_, _, rfl, h⟩
  · cases h
theorem mIdx_inv (h : mIdx f g e = true) : ∃ x y p, e = .Subscript x y p ∧ f x = true ∧ noSl y = true ∧ g y = true := by
  unfold mIdx at h; split at h
  · obtain ⟨h1, h2⟩ := both h
    exact ⟨_, _, _, rfl, h1, both h2⟩
  · cases h
theorem mSl_inv {k l : Option Expr → Bool} (h : mSl f k l e = true) : ∃ x a b p q, e = .Subscript x (.Slice a b none p) q ∧ f x = true ∧ k a = true ∧ l b = true := by
  unfold mSl at h; split at h
  · obtain ⟨h1, h2⟩ := both h
    exact ⟨_, _, _, _, _, rfl, h1, both h2⟩
  · cases h
theorem mCall_inv {nm : Option Str} {k : List Expr → Bool} (h : mCall S nm k e = true) : ∃ x p y ys q, e = .Call (.Name x p) (y :: ys) [] q ∧ nm = some x ∧ glB S x = true ∧ k (y :: ys) = true := by
  unfold mCall at h; split at h
  · obtain ⟨h1, h2⟩ := both h
    exact ⟨_, _, _, _, _, rfl, dec h1, both h2⟩
  · cases h
theorem mIsa_inv {t : Nat} (h : mIsa S t f e = true) : ∃ p y q r, e = .Call (.Name "isinstance" p) [y, .Name (isaN t) q] [] r ∧ glB S "isinstance" = true ∧ glB S (isaN t) = true ∧ t ≤ 5 ∧ f y = true := by
  unfold mIsa at h; split at h
  · obtain ⟨h1, h2⟩ := both h
    obtain ⟨h1, h3⟩ := both h1
    obtain ⟨h2, h4⟩ := both h2
    obtain ⟨h2, h5⟩ := both h2
    obtain ⟨h4, h6⟩ := both h4
    obtain rfl := dec h1
    obtain rfl := dec h2
    exact ⟨_, _, _, _, rfl, h3, h5, dec h4, h6⟩
  · cases h
theorem mWrap_inv {x y : Str} (h : mWrap S x y f e = true) : ∃ p q z r t, e = .Call (.Name x p) [.Call (.Name y q) [z] [] r] [] t ∧ glB S x = true ∧ glB S y = true ∧ f z = true := by
  unfold mWrap at h; split at h
  · obtain ⟨h1, h2⟩ := both h
    obtain ⟨h1, h3⟩ := both h1
    obtain ⟨h2, h4⟩ := both h2
    obtain ⟨h2, h5⟩ := both h2
    obtain rfl := dec h1
    obtain rfl := dec h2
    exact ⟨_, _, _, _, _, rfl, h3, h5, h4⟩
  · cases h
theorem mComp_inv {tg : Tg} {k l : Scope → Expr → Bool} {yes : Bool} (h : mComp N S tg f k l yes e = true) : ∃ x tg' it' ifs sc p, e = .ListComp x [⟨tg', it', ifs, 0⟩] sc p ∧ blkC N S sc (ownOf N (tgs tg)) = true ∧ tgB N (relS sc S) sc tg tg' = true ∧ f it' = true ∧ k (relS sc S) x = true ∧ mIfs yes (l (relS sc S)) ifs = true := by
  unfold mComp at h; split at h
  · obtain ⟨h1, h2⟩ := both h
    obtain ⟨h2, h3⟩ := both h2
    obtain ⟨h2, h4⟩ := both h2
    exact ⟨_, _, _, _, _, _, rfl, h1, h2, h4, both h3⟩
  · cases h
theorem mComp2_inv {tg tg1 : Tg} {j k l m : Scope → Expr → Bool} {yes yes1 : Bool} (h : mComp2 N S tg tg1 f j k l m yes yes1 e = true) : ∃ x tg' it' ifs tg1' it1' ifs1 sc p, e = .ListComp x [⟨tg', it', ifs, 0⟩, ⟨tg1', it1', ifs1, 0⟩] sc p ∧ blkC N S sc (ownOf N (tgs tg ++ tgs tg1)) = true ∧
    tgB N (relS sc S) sc tg tg' = true ∧ f it' = true ∧ tgB N (relS sc S) sc tg1 tg1' = true ∧ j (relS sc S) it1' = true ∧ k (relS sc S) x = true ∧ mIfs yes (l (relS sc S)) ifs = true ∧ mIfs yes1 (m (relS sc S)) ifs1 = true := by
  unfold mComp2 at h; split at h
  · obtain ⟨h1, h2⟩ := both h
    obtain ⟨h2, h3⟩ := both h2
    obtain ⟨h2, h4⟩ := both h2
    obtain ⟨h3, h5⟩ := both h3
    obtain ⟨h3, h6⟩ := both h3
    obtain ⟨h5, h7⟩ := both h5
    exact ⟨_, _, _, _, _, _, _, _, _, rfl, h1, h2, h4, h3, h6, h5, both h7⟩
  · cases h
theorem mRg_inv (h : mRg S f e = true) : ∃ p z r, e = .Call (.Name "range" p) [z] [] r ∧ glB S "range" = true ∧ f z = true := by
  unfold mRg at h; split at h
  · obtain ⟨h1, h2⟩ := both h
    obtain ⟨h1, h3⟩ := both h1
    obtain rfl := dec h1
    exact ⟨_, _, _, rfl, h3, h2⟩
  · cases h
theorem mRg2_inv (h : mRg2 S f g e = true) : ∃ p z u r, e = .Call (.Name "range" p) [z, u] [] r ∧ glB S "range" = true ∧ f z = true ∧ g u = true := by
  unfold mRg2 at h; split at h
  · obtain ⟨h1, h2⟩ := both h
    obtain ⟨h1, h3⟩ := both h1
    obtain rfl := dec h1
    exact ⟨_, _, _, _, rfl, h3, both h2⟩
  · cases h
theorem mCons_inv {k : List Expr → Bool} {es : List Expr} (h : mCons f k es = true) : ∃ x xs, es = x :: xs ∧ f x = true ∧ k xs = true := by
  unfold mCons at h; split at h
  · exact ⟨_, _, rfl, both h⟩
  · cases h
theorem isNil_inv {es : List Expr} (h : isNil es = true) : es = [] := by
  unfold isNil at h; split at h
  · rfl
  · cases h
theorem nmB_inv {i : Nat} {x : Str} (h : nmB N S i x = true) : N[i]? = some x ∧ Vis S x ∧ (x == ("__debug__" : Str)) = false ∧ (x == ("__classdict__" : Str)) = false := by
  unfold nmB ixB visB at h
  obtain ⟨h1, h2⟩ := both h
  obtain ⟨h2, h3⟩ := both h2
  obtain ⟨h3, h4⟩ := both h3
  refine ⟨?_, ?_, by simpa using h3, by simpa using h4⟩
  · split at h1
    · rename_i y e; rw [e, dec h1]
    · cases h1
  · split at h2
    · exact .inl (by assumption)
    · exact .inr (.inl (by assumption))
    · exact .inr (.inr (by assumption))
    · cases h2
theorem glB_inv {x : Str} (h : glB S x = true) : S.names.lookup x = some .globalImplicit ∧ (x == ("__debug__" : Str)) = false := by
  unfold glB at h
  obtain ⟨h1, h2⟩ := both h
  refine ⟨?_, by simpa using h2⟩
  split at h1
  · assumption
  · cases h1
theorem stoB_inv {raw : Scope} {i : Nat} {x : Str} (h : stoB N S raw i x = true) : N[i]? = some x ∧ (S.names.lookup x = some .local ∨ (celB raw x = true ∧ S.names.lookup x = some .cell)) := by
  unfold stoB ixB loclB at h
  obtain ⟨h1, h2⟩ := both h
  refine ⟨?_, ?_⟩
  · split at h1
    · rename_i y e; rw [e, dec h1]
    · cases h1
  · rw [Bool.or_eq_true] at h2
    rcases h2 with h2 | h2
    · split at h2
      · exact .inl (by assumption)
      · cases h2
    · obtain ⟨h2, h3⟩ := both h2
      refine .inr ⟨h2, ?_⟩
      unfold celB at h3
      split at h3
      · assumption
      · cases h3
theorem cstB_inv {d : PyData} {c : Const} (h : cstB d c = true) : (d = .none ∧ c = .none) ∨ (∃ b, d = .bool b ∧ c = .bool b) ∨ (∃ i, d = .int i ∧ c = .int i) ∨ ∃ x, d = .str x ∧ c = .str x := by
  unfold cstB at h; split at h
  · exact .inl ⟨rfl, rfl⟩
  · exact .inr (.inl ⟨_, rfl, by rw [eq_of_beq h]⟩)
  · exact .inr (.inr (.inl ⟨_, rfl, by rw [dec h]⟩))
  · exact .inr (.inr (.inr ⟨_, rfl, by rw [dec h]⟩))
  · cases h
end
end Pv
set_option Elab.async false
set_option linter.all false
set_option maxRecDepth 100000
set_option maxHeartbeats 2000000
/-! Core 3: plain data in the heap; a frame that stands for a data frame. Own work. -/
set_option autoImplicit false
namespace Pv
open PySem PySem.Spec L2

mutual
/-- v is the data d, by the frozen part G of the heap -/
inductive Rp (K : PySem.W.Frag) (G : Hp) : V → PyData → Prop
  | non : Rp K G .non .none
  | bl (b : Bool) : Rp K G (.bl b) (.bool b)
  | int (i : Int) : Rp K G (.int i) (.int i)
  | str (x : Str) : Rp K G (.str x) (.str x)
  | lst {a : Addr} {xs : List V} {ds : List PyData} : G a = some (.lst xs) → Rps K G xs ds → Rp K G (.ref a) (.list ds)
  | tup {a : Addr} {xs : List V} {ds : List PyData} : TuD K G a xs → Rps K G xs ds → Rp K G (.ref a) (.tuple ds)
  | dct {a : Addr} {ks : List Str} {xs : List V} {ds : List PyData} : G a = some (.dK ((ks.map Sum.inr).zip xs)) → ks.length = ds.length → ks.Nodup → Rps K G xs ds → Rp K G (.ref a) (.dict (encP (ks.zip ds)))
inductive Rps (K : PySem.W.Frag) (G : Hp) : List V → List PyData → Prop
  | nil : Rps K G [] []
  | cons {v : V} {vs : List V} {d : PyData} {ds : List PyData} : Rp K G v d → Rps K G vs ds → Rps K G (v :: vs) (d :: ds)
end
def Sub (G H : Hp) : Prop := ∀ a o, G a = some o → H a = some o
theorem Sub.refl (G : Hp) : Sub G G := fun _ _ e => e
theorem Sub.trans {G H J : Hp} (a : Sub G H) (b : Sub H J) : Sub G J := fun x o e => b x o (a x o e)
theorem Sub.tuD {K : PySem.W.Frag} {G H : Hp} (s : Sub G H) {a : Addr} {xs : List V} (h : TuD K G a xs) : TuD K H a xs := by
  rcases h with ⟨o, h, n⟩ | h
  · exact .inl ⟨o, s _ _ h, n⟩
  · exact .inr h
theorem Sub.sqT {K : PySem.W.Frag} {G H : Hp} (s : Sub G H) {a : Addr} {xs : List V} (h : SqT K G a xs) : SqT K H a xs := by
  rcases h with (h | ⟨o, h⟩) | h
  · exact .inl (.inl (s _ _ h))
  · exact .inl (.inr ⟨o, s _ _ h⟩)
  · exact .inr h
section
variable {K : PySem.W.Frag} {G H : Hp}
mutual
theorem Rp.mono (s : Sub G H) : ∀ {v : V} {d : PyData}, Rp K G v d → Rp K H v d
  | _, _, .non => .non
  | _, _, .bl b => .bl b
  | _, _, .int i => .int i
  | _, _, .str x => .str x
  | _, _, .lst h r => .lst (s _ _ h) (Rps.mono s r)
  | _, _, .tup h r => .tup (s.tuD h) (Rps.mono s r)
  | _, _, .dct h l n r => .dct (s _ _ h) l n (Rps.mono s r)
theorem Rps.mono (s : Sub G H) : ∀ {vs : List V} {ds : List PyData}, Rps K G vs ds → Rps K H vs ds
  | _, _, .nil => .nil
  | _, _, .cons a b => .cons (Rp.mono s a) (Rps.mono s b)
end
theorem plain_both {d : PyData} {ds : List PyData} (h : PyData.plainAll (d :: ds) = true) : d.plain = true ∧ PyData.plainAll ds = true := by
  rw [PyData.plainAll, Bool.and_eq_true] at h
  exact h
mutual
theorem Rp.dp (s : Sub G H) : ∀ {v : V} {d : PyData}, Rp K G v d → d.plain = true → Dp K H v d
  | _, _, .non, _ => .non
  | _, _, .bl b, _ => .bl b
  | _, _, .int i, _ => .int i
  | _, _, .str x, _ => .str x
  | _, _, .lst h r, p => .lst (SqL.of (s _ _ h)) (Rps.dp s r (by rw [PyData.plain] at p; exact p))
  | _, _, .tup h r, p => .tup (s.sqT h.sq) (Rps.dp s r (by rw [PyData.plain] at p; exact p))
  | _, _, .dct h l n r, p => by rw [PyData.plain] at p; cases p
theorem Rps.dp (s : Sub G H) : ∀ {vs : List V} {ds : List PyData}, Rps K G vs ds → PyData.plainAll ds = true → DpAll K H vs ds
  | _, _, .nil, _ => .nil
  | _, _, .cons a b, p => .cons (Rp.dp s a (plain_both p).1) (Rps.dp s b (plain_both p).2)
end
theorem Rps.length : ∀ {vs : List V} {ds : List PyData}, Rps K G vs ds → vs.length = ds.length
  | _, _, .nil => rfl
  | _, _, .cons _ b => by rw [List.length_cons, List.length_cons, Rps.length b]
theorem Rps.get : ∀ {vs : List V} {ds : List PyData} {i : Nat} {d : PyData}, Rps K G vs ds → ds[i]? = some d → ∃ v, vs[i]? = some v ∧ Rp K G v d
  | _, _, _, _, .nil, e => by simp at e
  | _, _, 0, _, .cons a _, e => by simp at e; subst e; exact ⟨_, rfl, a⟩
  | _, _, i + 1, d, .cons _ b, e => by
    obtain ⟨v, h1, h2⟩ := Rps.get (i := i) (d := d) b (by simpa using e)
    exact ⟨v, by simpa using h1, h2⟩
theorem Rps.getV : ∀ {vs : List V} {ds : List PyData} {i : Nat} {v : V}, Rps K G vs ds → vs[i]? = some v → ∃ d, ds[i]? = some d ∧ Rp K G v d
  | _, _, _, _, .nil, e => by simp at e
  | _, _, 0, _, .cons a _, e => by simp at e; subst e; exact ⟨_, rfl, a⟩
  | _, _, i + 1, v, .cons _ b, e => by
    obtain ⟨d, h1, h2⟩ := Rps.getV (i := i) (v := v) b (by simpa using e)
    exact ⟨d, by simpa using h1, h2⟩
theorem Rps.append : ∀ {xs ys : List V} {ds es : List PyData}, Rps K G xs ds → Rps K G ys es → Rps K G (xs ++ ys) (ds ++ es)
  | _, _, _, _, .nil, s => s
  | _, _, _, _, .cons a b, s => .cons a (Rps.append b s)
theorem Rps.take : ∀ {xs : List V} {ds : List PyData} (n : Nat), Rps K G xs ds → Rps K G (xs.take n) (ds.take n)
  | _, _, 0, _ => .nil
  | _, _, _ + 1, .nil => .nil
  | _, _, n + 1, .cons a b => .cons a (Rps.take n b)
theorem Rps.drop : ∀ {xs : List V} {ds : List PyData} (n : Nat), Rps K G xs ds → Rps K G (xs.drop n) (ds.drop n)
  | _, _, 0, r => r
  | _, _, _ + 1, .nil => .nil
  | _, _, n + 1, .cons _ b => Rps.drop n b
theorem Rps.set {v : V} {d : PyData} (r : Rp K G v d) : ∀ {xs : List V} {ds : List PyData} (i : Nat), Rps K G xs ds → Rps K G (xs.set i v) (ds.set i d)
  | _, _, _, .nil => .nil
  | _, _, 0, .cons _ t => .cons r t
  | _, _, i + 1, .cons q t => .cons q (Rps.set r i t)
theorem Rps.cut {xs : List V} {ds : List PyData} (r : Rps K G xs ds) (lo hi : Option Int) : Rps K G (cutV xs lo hi) (cutG ds lo hi) := by
  unfold cutV cutG
  rw [r.length]
  exact (r.drop _).take _
theorem Rps.rep {xs : List V} {ds : List PyData} (r : Rps K G xs ds) : ∀ n, Rps K G (List.replicate n xs).flatten (List.replicate n ds).flatten
  | 0 => .nil
  | n + 1 => by
    rw [List.replicate_succ, List.replicate_succ, List.flatten_cons, List.flatten_cons]
    exact r.append (Rps.rep r n)
theorem Rps.ints : ∀ ns : List Int, Rps K G (ns.map V.int) (ns.map PyData.int)
  | [] => .nil
  | n :: r => .cons (.int n) (Rps.ints r)
end

/-- the two lists of the law's drawing state -/
abbrev DFt := Option (Addr × Addr)
def NotIn (a : Addr) : DFt → Prop
  | none => True
  | some q => a ≠ q.1 ∧ a ≠ q.2
/-- no table of code objects: those may grow -/
def noTbl : HO → Prop
  | .tbl _ => False
  | _ => True
/-- nothing there but, it may be, a table -/
def Fr0 (H : Hp) (a : Addr) : Prop := ∀ o, H a = some o → ¬ noTbl o
theorem Fr0.of {H : Hp} {a : Addr} (h : H a = none) : Fr0 H a := fun o e => by rw [h] at e; cases e
theorem Fr0.no {H : Hp} {a : Addr} {xs : List V} (h : Fr0 H a) (e : H a = some (.lst xs)) : False := h _ e trivial
def Keep (DF : DFt) (H H' : Hp) : Prop := ∀ a o, H a = some o → noTbl o → NotIn a DF → H' a = some o
theorem Keep.refl (DF : DFt) (H : Hp) : Keep DF H H := fun _ _ e _ _ => e
theorem Keep.trans {DF : DFt} {H H1 H2 : Hp} (a : Keep DF H H1) (b : Keep DF H1 H2) : Keep DF H H2 := fun x o e z n => b x o (a x o e z n) z n
theorem Keep.upd {DF : DFt} {H : Hp} {p : Addr} {o : HO} (h : H p = none) : Keep DF H (upd H p o) := fun b u e _ _ => by
  rw [upd_ne (ne_of_none e h)]
  exact e
theorem Sub.upd {G : Hp} {p : Addr} {o : HO} (h : G p = none) : Sub G (upd G p o) := fun b u e => by
  rw [upd_ne (ne_of_none e h)]
  exact e
/-- the state of the drawing: cells -/
def CellsOk (cells : List Int) : Prop := cells ≠ [] ∧ cells.length ≤ 1000
def Dr (G H : Hp) : DFt → Prop
  | none => True
  | some q => G q.1 = none ∧ G q.2 = none ∧ q.1 ≠ q.2 ∧ ∃ pos cells, H q.1 = some (.lst [.int pos, .ref q.2]) ∧ H q.2 = some (.lst (cells.map V.int)) ∧ CellsOk cells
/-- the frozen part holds no table -/
def NT (G : Hp) : Prop := ∀ a o, G a = some o → noTbl o
theorem NT.upd {G : Hp} {p : Addr} {o : HO} (h : NT G) (n : noTbl o) : NT (upd G p o) := fun a u e => by
  by_cases hp : a = p
  · subst hp; rw [upd_same] at e; cases e; exact n
  · rw [upd_ne hp] at e; exact h a u e
def DrOk (G H : Hp) (DF : DFt) : Prop := NT G ∧ Dr G H DF
/-- a list (later: a dict) that one name alone holds -/
def Ow (K : PySem.W.Frag) (G H : Hp) (p : Addr) : PyData → Prop
  | .list ds => ∃ xs, H p = some (.lst xs) ∧ Rps K G xs ds
  | _ => False
structure Px where
  /-- the tables of code objects, with the names of their lambdas -/
  T : List (Addr × Str)
  K : PySem.W.Frag
  cl : Nat → Addr
  fl : Nat → Str
  DF0 : DFt
  G0 : Hp
  H0 : Hp
/-- a slot of the frame -/
def SlotOk (P : Px) (DF : DFt) (G H : Hp) (o : Option (Option V)) : Slot → Prop
  | .un => True
  | .v d => ∃ v, o = some (some v) ∧ Rp P.K G v d
  | .own d => ∃ p, o = some (some (.ref p)) ∧ G p = none ∧ Fr0 P.H0 p ∧ NotIn p DF ∧ Ow P.K G H p d
  | .st => ∃ q, o = some (some (.ref q.1)) ∧ DF = some q
  | .ob _ => False
def ud (G : Hp) (p : Addr) (o : HO) : Hp := upd G p o
structure FrD (P : Px) (DF : DFt) (σ : St) (ρ : Env) (G H : Hp) : Prop where
  len : ρ.length = σ.length
  sub : Sub G H
  sub0 : Sub P.G0 G
  new : ∀ a o, G a = some o → P.G0 a = some o ∨ Fr0 P.H0 a
  keep0 : Keep DF P.H0 H
  df : DF = P.DF0 ∨ (P.DF0 = none ∧ ∀ q, DF = some q → Fr0 P.H0 q.1 ∧ Fr0 P.H0 q.2)
  slots : ∀ (i : Nat) (s : Slot), ρ[i]? = some s → SlotOk P DF G H σ[i]? s
  own1 : ∀ (i j : Nat) (d d' : PyData) (p : Addr), ρ[i]? = some (.own d) → ρ[j]? = some (.own d') → σ[i]? = some (some (.ref p)) → σ[j]? = some (some (.ref p)) → i = j
  dr : DrOk G H DF
  live0 : ∀ a, Fr0 H a → Fr0 P.H0 a
  tab : LamX.Tabs P.T H
/-- how a heap and its frozen part grow -/
structure Gr (T : List (Addr × Str)) (DF : DFt) (G H G' H' : Hp) : Prop where
  sub : Sub G G'
  keep : Keep DF H H'
  new : ∀ a o, G' a = some o → G a = some o ∨ Fr0 H a
  live : ∀ a, Fr0 H' a → Fr0 H a
  tab : LamX.Tabs T H → LamX.Tabs T H'
theorem Gr.refl (T : List (Addr × Str)) (DF : DFt) (G H : Hp) : Gr T DF G H G H := ⟨Sub.refl G, Keep.refl DF H, fun _ _ e => .inl e, fun _ e => e, fun t => t⟩
theorem Gr.trans {T : List (Addr × Str)} {DF : DFt} {G H G1 H1 G2 H2 : Hp} (a : Gr T DF G H G1 H1) (b : Gr T DF G1 H1 G2 H2) : Gr T DF G H G2 H2 :=
  ⟨a.sub.trans b.sub, a.keep.trans b.keep, fun x o e => by
    rcases b.new x o e with z | z
    · exact a.new x o z
    · exact .inr (a.live x z), fun x e => a.live x (b.live x e), fun t => b.tab (a.tab t)⟩
/-- tables, where lists alone are written -/
theorem tabs_lst {T : List (Addr × Str)} {H H' : Hp} (t : LamX.Tabs T H) (h : ∀ a o, H a = some o → (∀ xs, o ≠ .lst xs) → H' a = some o) : LamX.Tabs T H' := fun p hp => by
  obtain ⟨ps, h1, h2, h3⟩ := t p hp
  refine ⟨ps, h _ _ h1 (fun xs z => nomatch z), h2, fun pos cv hc => ?_⟩
  obtain ⟨c, e1, e2⟩ := h3 pos cv hc
  exact ⟨c, e1, h _ _ e2 fun xs z => by unfold LamX.CodeO at z; cases z⟩
theorem tabs_upd {T : List (Addr × Str)} {H : Hp} {p : Addr} {o : HO} (t : LamX.Tabs T H) (h : H p = none) : LamX.Tabs T (upd H p o) := t.ext fun b u e => by rw [upd_ne (ne_of_none e h)]; exact e
theorem tabs_wr {T : List (Addr × Str)} {H : Hp} {p : Addr} {o : HO} {xs : List V} (t : LamX.Tabs T H) (h : H p = some (.lst xs)) : LamX.Tabs T (upd H p o) := tabs_lst t fun a u e n => by
  rw [upd_ne (fun z => n xs (by rw [z, h] at e; cases e; rfl))]; exact e
section
variable {P : Px} {DF : DFt} {σ σ' : St} {ρ ρ' : Env} {G G' H H' : Hp}
theorem FrD.none_of (F : FrD P DF σ ρ G H) {a : Addr} (h : H a = none) : G a = none := by
  cases e : G a with
  | none => rfl
  | some o => rw [F.sub a o e] at h; cases h
theorem SlotOk.own_some {o : Option (Option V)} {d : PyData} (h : SlotOk P DF G H o (.own d)) : ∃ p u, o = some (some (.ref p)) ∧ H p = some u := by
  obtain ⟨p, h1, h2, h3, h4, h5⟩ := h
  cases d with
  | list ds => obtain ⟨xs, z, _⟩ := h5; exact ⟨p, _, h1, z⟩
  | _ => exact h5.elim
theorem SlotOk.grow {o : Option (Option V)} {sl : Slot} (h : SlotOk P DF G H o sl) (g : Gr P.T DF G H G' H') : SlotOk P DF G' H' o sl := by
  cases sl with
  | un => trivial
  | v d => obtain ⟨v, h1, h2⟩ := h; exact ⟨v, h1, h2.mono g.sub⟩
  | own d =>
    obtain ⟨p, h1, h2, h3, h4, h5⟩ := h
    cases d with
    | list ds =>
      obtain ⟨xs, z, r⟩ := h5
      refine ⟨p, h1, ?_, h3, h4, xs, g.keep _ _ z trivial h4, r.mono g.sub⟩
      cases q : G' p with
      | none => rfl
      | some u =>
        rcases g.new p u q with w | w
        · rw [h2] at w; cases w
        · exact (w.no z).elim
    | _ => exact h5.elim
  | st => exact h
  | ob _ => exact h.elim
/-- the heap grows -/
theorem FrD.grow (F : FrD P DF σ ρ G H) (g : Gr P.T DF G H G' H') (sH : Sub G' H') (d : DrOk G' H' DF) : FrD P DF σ ρ G' H' where
  len := F.len
  sub := sH
  sub0 := F.sub0.trans g.sub
  new := fun a o e => by
    rcases g.new a o e with z | z
    · exact F.new a o z
    · exact .inr (F.live0 a z)
  keep0 := F.keep0.trans g.keep
  df := F.df
  slots := fun i sl e => (F.slots i sl e).grow g
  own1 := F.own1
  dr := d
  live0 := fun a e => F.live0 a (g.live a e)
  tab := g.tab F.tab
/-- the same heap, seen by another frame of ours -/
theorem FrD.swap (F : FrD P DF σ ρ G H) (g : Gr P.T DF G H G' H') (F' : FrD P DF σ' ρ' G' H') : FrD P DF σ ρ G' H' := F.grow g F'.sub F'.dr
theorem DrOk.keep {G G' H H' : Hp} (d : DrOk G H DF) (nt : NT G') (k : Keep none H H') (n : ∀ a o, G' a = some o → G a = some o ∨ Fr0 H a) : DrOk G' H' DF := by
  refine ⟨nt, ?_⟩
  replace d := d.2
  cases DF with
  | none => trivial
  | some q =>
    obtain ⟨h1, h2, h3, pos, cells, h4, h5, h6⟩ := d
    refine ⟨?_, ?_, h3, pos, cells, k _ _ h4 trivial trivial, k _ _ h5 trivial trivial, h6⟩
    · cases e : G' q.1 with
      | none => rfl
      | some o =>
        rcases n _ _ e with z | z
        · rw [h1] at z; cases z
        · exact (z.no h4).elim
    · cases e : G' q.2 with
      | none => rfl
      | some o =>
        rcases n _ _ e with z | z
        · rw [h2] at z; cases z
        · exact (z.no h5).elim
theorem FrD.notDF (F : FrD P DF σ ρ G H) {a : Addr} (h : Fr0 H a) : NotIn a DF := by
  have D := F.dr.2
  cases hd : DF with
  | none => trivial
  | some w =>
    rw [hd] at D
    obtain ⟨_, _, _, _, _, e1, e2, _⟩ := D
    exact ⟨fun z => (by rw [z] at h; exact h.no e1), fun z => (by rw [z] at h; exact h.no e2)⟩
theorem FrD.h0 (F : FrD P DF σ ρ G H) {a : Addr} (h : Fr0 H a) : Fr0 P.H0 a ∧ NotIn a DF := ⟨F.live0 a h, F.notDF h⟩
/-- an object of ours is frozen -/
theorem FrD.ice (F : FrD P DF σ ρ G H) {a : Addr} {o : HO} (e : H a = some o) (g : G a = none) (h0 : Fr0 P.H0 a) (hn : NotIn a DF) (ho : ∀ (i : Nat) d, ρ[i]? = some (.own d) → σ[i]? ≠ some (some (.ref a))) (nt : noTbl o := by exact trivial) : FrD P DF σ ρ (upd G a o) H := by
  have s : Sub G (upd G a o) := fun b u z => by rw [upd_ne (ne_of_none z g)]; exact z
  refine ⟨F.len, fun b u z => ?_, F.sub0.trans s, fun b u z => ?_, F.keep0, F.df, fun i sl z => ?_, F.own1, ?_, F.live0, F.tab⟩
  · by_cases hb : b = a
    · subst hb; rw [upd_same] at z; rw [e]; exact z
    · rw [upd_ne hb] at z; exact F.sub b u z
  · by_cases hb : b = a
    · subst hb; exact .inr h0
    · rw [upd_ne hb] at z; exact F.new b u z
  · have h := F.slots i sl z
    cases sl with
    | un => trivial
    | v d => obtain ⟨v, h1, h2⟩ := h; exact ⟨v, h1, h2.mono s⟩
    | own d =>
      obtain ⟨p, h1, h2, h3, h4, h5⟩ := h
      have hp : p ≠ a := fun q => ho i d z (by rw [h1, q])
      refine ⟨p, h1, by rw [upd_ne hp]; exact h2, h3, h4, ?_⟩
      cases d with
      | list ds => obtain ⟨xs, z, r⟩ := h5; exact ⟨xs, z, r.mono s⟩
      | _ => exact h5.elim
    | st => exact h
    | ob _ => exact h.elim
  · refine ⟨F.dr.1.upd nt, ?_⟩
    have D := F.dr.2
    cases hd : DF with
    | none => trivial
    | some w =>
      rw [hd] at D hn
      obtain ⟨d1, d2, d3, pos, cells, d4⟩ := D
      exact ⟨by rw [upd_ne (Ne.symm hn.1)]; exact d1, by rw [upd_ne (Ne.symm hn.2)]; exact d2, d3, pos, cells, d4⟩
theorem SlotOk.own_lst {o : Option (Option V)} {d : PyData} (h : SlotOk P DF G H o (.own d)) : ∃ p xs, o = some (some (.ref p)) ∧ H p = some (.lst xs) := by
  obtain ⟨p, h1, h2, h3, h4, h5⟩ := h
  cases d with
  | list ds => obtain ⟨xs, z, _⟩ := h5; exact ⟨p, _, h1, z⟩
  | _ => exact h5.elim
theorem FrD.notOwn (F : FrD P DF σ ρ G H) {a : Addr} (h : Fr0 H a) : ∀ (i : Nat) d, ρ[i]? = some (.own d) → σ[i]? ≠ some (some (.ref a)) := fun i d z q => by
  obtain ⟨p, u, h1, h2⟩ := (F.slots i _ z).own_lst
  rw [q] at h1
  cases h1
  exact h.no h2
theorem fr0_upd {p : Addr} {o : HO} (h : H p = none) : ∀ a, Fr0 (upd H p o) a → Fr0 H a := fun a e u z => e u (by rw [upd_ne (ne_of_none z h)]; exact z)
theorem fr0_wr {p : Addr} {xs ys : List V} : ∀ a, Fr0 (upd H p (.lst ys)) a → Fr0 H a := fun a e u z => by
  by_cases hb : a = p
  · subst hb
    exact (e.no upd_same).elim
  · exact e u (by rw [upd_ne hb]; exact z)
theorem Gr.more {p : Addr} {o : HO} (hg : G p = none) (h : H p = none) : Gr P.T DF G H G (upd H p o) :=
  ⟨Sub.refl G, Keep.upd h, fun _ _ e => .inl e, fr0_upd h, fun t => tabs_upd t h⟩
theorem Gr.ice {p : Addr} {o : HO} (hg : G p = none) (h : H p = none) : Gr P.T DF G H (Pv.ud G p o) (upd H p o) := by
  unfold Pv.ud
  exact ⟨Sub.upd hg, Keep.upd h, fun a u e => by
    by_cases hp : a = p
    · subst hp; exact .inr (.of h)
    · rw [upd_ne hp] at e; exact .inl e, fr0_upd h, fun t => tabs_upd t h⟩
/-- a new object is frozen -/
theorem FrD.freeze (F : FrD P DF σ ρ G H) {p : Addr} {o : HO} (h : H p = none) (nt : noTbl o := by exact trivial) : FrD P DF σ ρ (ud G p o) (upd H p o) ∧ Gr P.T DF G H (ud G p o) (upd H p o) ∧ (ud G p o) p = some o := by
  have hg := F.none_of h
  have g : Gr P.T DF G H (ud G p o) (upd H p o) := Gr.ice hg h
  refine ⟨F.grow g (fun a u e => ?_) (F.dr.keep (F.dr.1.upd nt) (Keep.upd h) g.new), g, upd_same⟩
  unfold ud at e
  by_cases hp : a = p
  · subst hp
    rw [upd_same] at e
    rw [upd_same]; exact e
  · rw [upd_ne hp] at e
    rw [upd_ne hp]; exact F.sub a u e
/-- a new object, not frozen -/
theorem FrD.more (F : FrD P DF σ ρ G H) {p : Addr} {o : HO} (h : H p = none) : FrD P DF σ ρ G (upd H p o) ∧ Gr P.T DF G H G (upd H p o) := by
  have g : Gr P.T DF G H G (upd H p o) := Gr.more (F.none_of h) h
  exact ⟨F.grow g (F.sub.trans fun a u e => by rw [upd_ne (ne_of_none e h)]; exact e) (F.dr.keep F.dr.1 (Keep.upd h) g.new), g⟩
/-- an object of ours is written -/
theorem FrD.poke (F : FrD P DF σ ρ G H) {a : Addr} {ys : List V} {xs : List V} (ea : H a = some (.lst xs)) (g : G a = none) (h0 : Fr0 P.H0 a) (hn : NotIn a DF) (ho : ∀ (i : Nat) d, ρ[i]? = some (.own d) → σ[i]? ≠ some (some (.ref a))) : FrD P DF σ ρ G (upd H a (.lst ys)) := by
  refine ⟨F.len, fun b u z => ?_, F.sub0, F.new, fun b u z nt n => ?_, F.df, fun i sl z => ?_, F.own1, ?_, fun b e => ?_, tabs_wr F.tab ea⟩
  · rw [upd_ne (ne_of_none z g)]; exact F.sub b u z
  · rw [upd_ne (fun e => h0 u (by rw [← e]; exact z) nt)]; exact F.keep0 b u z nt n
  · have h := F.slots i sl z
    cases sl with
    | un => trivial
    | v d => exact h
    | own d =>
      obtain ⟨p, h1, h2, h3, h4, h5⟩ := h
      have hp : p ≠ a := fun q => ho i d z (by rw [h1, q])
      refine ⟨p, h1, h2, h3, h4, ?_⟩
      cases d with
      | list ds => obtain ⟨xs, z, r⟩ := h5; exact ⟨xs, by rw [upd_ne hp]; exact z, r⟩
      | _ => exact h5.elim
    | st => exact h
    | ob _ => exact h.elim
  · refine ⟨F.dr.1, ?_⟩
    have D := F.dr.2
    cases hd : DF with
    | none => trivial
    | some w =>
      rw [hd] at D hn
      obtain ⟨d1, d2, d3, pos, cells, d4, d5, d6⟩ := D
      exact ⟨d1, d2, d3, pos, cells, by rw [upd_ne (Ne.symm hn.1)]; exact d4, by rw [upd_ne (Ne.symm hn.2)]; exact d5, d6⟩
  · exact F.live0 b (fr0_wr (xs := xs) b e)
end
/-- a value, or a list that a name alone holds, to be read -/
def Rb (K : PySem.W.Frag) (DF : DFt) (G H : Hp) (v : V) (d : PyData) : Prop := Rp K G v d ∨ ∃ p, v = .ref p ∧ NotIn p DF ∧ Ow K G H p d
section
variable {K : PySem.W.Frag} {DF : DFt} {G G' H H' : Hp} {v : V} {d : PyData}
theorem Rb.keep {T : List (Addr × Str)} (r : Rb K DF G H v d) (g : Gr T DF G H G' H') : Rb K DF G' H' v d := by
  rcases r with r | ⟨p, e, h1, h2⟩
  · exact .inl (r.mono g.sub)
  · cases d with
    | list ds =>
      obtain ⟨xs, z, r⟩ := h2
      exact .inr ⟨p, e, h1, xs, g.keep _ _ z trivial h1, r.mono g.sub⟩
    | _ => exact h2.elim
theorem Rb.int {i : Int} (r : Rb K DF G H v (.int i)) : v = .int i := by
  rcases r with r | ⟨p, e, h1, h2⟩
  · cases r; rfl
  · exact h2.elim
theorem Rb.bool {i : Bool} (r : Rb K DF G H v (.bool i)) : v = .bl i := by
  rcases r with r | ⟨p, e, h1, h2⟩
  · cases r; rfl
  · exact h2.elim
theorem Rb.str {i : Str} (r : Rb K DF G H v (.str i)) : v = .str i := by
  rcases r with r | ⟨p, e, h1, h2⟩
  · cases r; rfl
  · exact h2.elim
theorem Rb.list {ds : List PyData} (r : Rb K DF G H v (.list ds)) (s : Sub G H) : ∃ a xs, v = .ref a ∧ H a = some (.lst xs) ∧ Rps K G xs ds := by
  rcases r with r | ⟨p, e, h1, xs, z, r⟩
  · cases r with
    | lst h r => exact ⟨_, _, rfl, s _ _ h, r⟩
  · exact ⟨p, xs, e, z, r⟩
theorem Rb.tup {ds : List PyData} (r : Rb K DF G H v (.tuple ds)) (s : Sub G H) : ∃ a xs, v = .ref a ∧ SqT K H a xs ∧ Rps K G xs ds ∧ Rp K G v (.tuple ds) := by
  rcases r with r | ⟨p, e, h1, h2⟩
  · have r0 := r
    cases r with
    | tup h r => exact ⟨_, _, rfl, s.sqT h.sq, r, r0⟩
  · exact h2.elim
theorem Rb.dict {kvs : List (PyData × PyData)} (r : Rb K DF G H v (.dict kvs)) (s : Sub G H) : ∃ (a : Addr) (ks : List Str) (xs : List V) (ds : List PyData), v = .ref a ∧ kvs = encP (ks.zip ds) ∧ H a = some (.dK ((ks.map Sum.inr).zip xs)) ∧ ks.length = ds.length ∧ ks.Nodup ∧ Rps K G xs ds := by
  rcases r with r | ⟨p, e, h1, h2⟩
  · cases r with
    | dct h l n r => exact ⟨_, _, _, _, rfl, rfl, s _ _ h, l, n, r⟩
  · exact h2.elim
theorem Rb.dp (r : Rb K DF G H v d) (s : Sub G H) (pl : d.plain = true) : Dp K H v d := by
  rcases r with r | ⟨p, e, h1, h2⟩
  · exact r.dp s pl
  · cases d with
    | list ds =>
      obtain ⟨xs, z, r⟩ := h2
      subst e
      exact .lst (SqL.of z) (r.dp s (by rw [PyData.plain] at pl; exact pl))
    | _ => exact h2.elim
end

/-! ### readings -/
/-- an exception of the class x.cls, its field -/
def ExAt (P : Px) (G : Hp) (x : Ex) (cls : Value) (dx : Option Addr) (H : Hp) : Prop := cls = .ref (P.cl x.cls) ∧ ∃ a v, dx = some a ∧ H a = some (.xd [(P.fl x.cls, v)]) ∧ Rp P.K G v x.fld
section
variable (P : Px) (C : Orc) (W : WX)
/-- what is wanted of an exception, from the state G, H on -/
def KX (DF : DFt) (σ : St) (ρ : Env) (G H : Hp) (e : Ex → Prop) : Prop := ∀ x H' G' cls dx, e x → FrD P DF σ ρ G' H' → Gr P.T DF G H G' H' → ExAt P G' x cls dx H' → W cls dx σ H'
def tV (c : CE) : TE := fun σ H Q => ∃ DF G ρ p e, FrD P DF σ ρ G H ∧ evE C c ρ p e ∧ (∀ v H' G' d, p d → FrD P DF σ ρ G' H' → Gr P.T DF G H G' H' → Rp P.K G' v d → Q v H') ∧ KX P W DF σ ρ G H e
def tB (c : CE) : TE := fun σ H Q => ∃ DF G ρ p e, FrD P DF σ ρ G H ∧ evE C c ρ p e ∧ (∀ v H' G' d, p d → FrD P DF σ ρ G' H' → Gr P.T DF G H G' H' → Rb P.K DF G' H' v d → Q v H') ∧ KX P W DF σ ρ G H e
/-- a new list -/
def tF (c : CE) : TE := fun σ H Q => ∃ DF G ρ p e, FrD P DF σ ρ G H ∧ evE C c ρ p e ∧ (∀ a xs H' G' ds, p (.list ds) → FrD P DF σ ρ G' H' → Gr P.T DF G H G' H' → Fr0 H a → G' a = none → H' a = some (.lst xs) → Rps P.K G' xs ds → Q (.ref a) H') ∧ KX P W DF σ ρ G H e
def tT (c : CE) : TT := fun σ H Q => ∃ DF G ρ p e, FrD P DF σ ρ G H ∧ evE C c ρ (fun d => asB d p) e ∧ (∀ b H' G', p b → FrD P DF σ ρ G' H' → Gr P.T DF G H G' H' → Q b H') ∧ KX P W DF σ ρ G H e
def tEs (c : CEs) : TA := fun σ H Q => ∃ DF G ρ p e, FrD P DF σ ρ G H ∧ evEs C c ρ p e ∧ (∀ vs H' G' ds, p ds → FrD P DF σ ρ G' H' → Gr P.T DF G H G' H' → Rps P.K G' vs ds → ds.length = cesLen c → Q vs H') ∧ KX P W DF σ ρ G H e
/-- data read alone -/
inductive Rbs (K : PySem.W.Frag) (DF : DFt) (G H : Hp) : List V → List PyData → Prop
  | nil : Rbs K DF G H [] []
  | cons {v vs d ds} : Rb K DF G H v d → Rbs K DF G H vs ds → Rbs K DF G H (v :: vs) (d :: ds)
def tBs (c : CEs) : TA := fun σ H Q => ∃ DF G ρ p e, FrD P DF σ ρ G H ∧ evEs C c ρ p e ∧ (∀ vs H' G' ds, p ds → FrD P DF σ ρ G' H' → Gr P.T DF G H G' H' → Rbs P.K DF G' H' vs ds → Q vs H') ∧ KX P W DF σ ρ G H e
/-- arguments -/
def RA (K : PySem.W.Frag) (DF : DFt) (G : Hp) : V → Slot → Prop
  | v, .v d => Rp K G v d
  | v, .st => ∃ q, v = .ref q.1 ∧ DF = some q
  | _, _ => False
inductive RAs (K : PySem.W.Frag) (DF : DFt) (G : Hp) : List V → List Slot → Prop
  | nil : RAs K DF G [] []
  | cons {v vs d ds} : RA K DF G v d → RAs K DF G vs ds → RAs K DF G (v :: vs) (d :: ds)
def tAr (c : CEs) : TA := fun σ H Q => ∃ DF G ρ p e, FrD P DF σ ρ G H ∧ evAr C c ρ p e ∧ (∀ vs H' G' ds, p ds → FrD P DF σ ρ G' H' → Gr P.T DF G H G' H' → RAs P.K DF G' vs ds → Q vs H') ∧ KX P W DF σ ρ G H e
end
section
variable {P : Px} {W : WX} {DF : DFt} {σ : St} {ρ : Env} {G G1 H H1 : Hp} {e : Ex → Prop}
theorem KX.step (k : KX P W DF σ ρ G H e) (g : Gr P.T DF G H G1 H1) : KX P W DF σ ρ G1 H1 e := fun x H' G' cls dx hx F g' ex => k x H' G' cls dx hx F (g.trans g') ex
theorem KX.noE : KX P W DF σ ρ G H noE := fun _ _ _ _ _ h => h.elim
end
theorem PE.mono {X : Cx} {e : Expr} {t t' : TE} (h : PE X e t) (m : ∀ σ H Q, t' σ H Q → t σ H Q) : PE X e t' := ⟨fun pins s σ H Q I q => h.run pins s σ H Q I (m σ H Q q)⟩
theorem PT.mono {X : Cx} {e : Expr} {t t' : TT} (h : PT X e t) (m : ∀ σ H Q, t' σ H Q → t σ H Q) : PT X e t' := ⟨fun pins s σ H Q I q => h.run pins s σ H Q I (m σ H Q q)⟩
theorem PA.mono {X : Cx} {e : List Expr} {t t' : TA} (h : PA X e t) (m : ∀ σ H Q, t' σ H Q → t σ H Q) : PA X e t' := ⟨fun pos pins s σ H Q I q => h.run pos pins s σ H Q I (m σ H Q q)⟩
end Pv
set_option Elab.async false
set_option linter.all false
set_option maxRecDepth 100000
set_option maxHeartbeats 4000000
/-! Core 4: operators and built-in functions over plain data. Own work. -/
set_option autoImplicit false
namespace Pv
open PySem PySem.Spec L2

structure Cxo (P : Px) (X : Cx) (S : Scope) (N : List Str) (cs : List (Str × PyData)) : Prop where
  K : X.K = P.K
  sc : X.env.scope = S
  hN : X.N = N
  nd : X.N.Nodup
  calm : X.calm = true
  hd : X.A.handled = none
  free : ∀ b ∈ (["len", "range", "min", "max", "abs", "sorted", "tuple", "list", "int", "isinstance", "set", "all", "any", "sum", "bool", "str", "dict"] : List Str), X.mg b = none
  gl : ∀ (k : Nat) (x : Str) (d : PyData), cs[k]? = some (x, d) → ∃ v u, X.mg x = some u ∧ RelV v u ∧ Rp P.K (fun _ => none) v d
  units : X.A.units + 200 < cLine
  depth : X.A.depth < recursionLimit

theorem line_lim : LIM ≤ sizeLine := by rw [sizeLine_eq]; decide
/-- what follows a value -/
def KV (P : Px) (DF : DFt) (σ : L2.St) (ρ : Env) (G H : Hp) (p : PyData → Prop) (Q : VK) : Prop := ∀ v H' G' d, p d → FrD P DF σ ρ G' H' → Gr P.T DF G H G' H' → Rp P.K G' v d → Q v H'
section
variable {P : Px} {DF : DFt} {σ : L2.St} {ρ : Env} {G H G1 H1 : Hp} {p : PyData → Prop} {Q : VK}
theorem KV.step (k : KV P DF σ ρ G H p Q) (g : Gr P.T DF G H G1 H1) : KV P DF σ ρ G1 H1 p Q := fun v H' G' d h F g' r => k v H' G' d h F (g.trans g') r
theorem KV.here (k : KV P DF σ ρ G H p Q) (F : FrD P DF σ ρ G H) {v : V} {d : PyData} (h : p d) (r : Rp P.K G v d) : Q v H := k v H G d h F (Gr.refl P.T DF G H) r
/-- a new tuple -/
theorem KV.newT (k : KV P DF σ ρ G H p Q) (F : FrD P DF σ ρ G H) {xs : List V} {ds : List PyData} (h : p (.tuple ds)) (r : Rps P.K G xs ds) : NewT xs H Q := fun a o n hd => by
  obtain ⟨F1, g, e1⟩ := F.freeze (o := .frz o (.tup xs)) n
  exact k _ _ _ _ h F1 g (.tup (.inl ⟨o, e1, hd⟩) (r.mono g.sub))
/-- a new list, frozen -/
theorem KV.newL (k : KV P DF σ ρ G H p Q) (F : FrD P DF σ ρ G H) {xs : List V} {ds : List PyData} (h : p (.list ds)) (r : Rps P.K G xs ds) {a : Addr} (n : H a = none) : Q (.ref a) (upd H a (.lst xs)) := by
  obtain ⟨F1, g, e1⟩ := F.freeze (o := .lst xs) n
  exact k _ _ _ _ h F1 g (.lst e1 (r.mono g.sub))
end
/-- an operator's reading by plain data -/
def rO (P : Px) (f : PyData → PyData → (PyData → Prop) → Prop) : R2 := fun x y H Q => ∃ DF G σ ρ p d1 d2, FrD P DF σ ρ G H ∧ Rb P.K DF G H x d1 ∧ Rb P.K DF G H y d2 ∧ f d1 d2 p ∧ KV P DF σ ρ G H p Q
section
variable {P : Px} {X : Cx} {S : Scope} {N : List Str} {cs : List (Str × PyData)}
theorem op2_ok (hX : Cxo P X S N cs) (o : Op2) : OpR X (binaryOp (op2O o)) (rO P (opD o)) := by
  intro pins s σ H x y v u Q I rx ry h
  obtain ⟨DF, G, σ', ρ, p, d1, d2, F, r1, r2, h, k⟩ := h
  have hK := hX.K
  cases o <;> cases d1 <;> cases d2 <;> first | exact (show False from h).elim | skip
  case add.int.int =>
    obtain rfl := r1.int
    obtain rfl := r2.int
    exact op_add pins s σ H _ _ v u Q I rx ry ⟨_, _, rfl, rfl, k.here F h (.int _)⟩
  case add.str.str =>
    obtain rfl := r1.str
    obtain rfl := r2.str
    obtain ⟨h1, h⟩ := h
    exact op_add_str pins s σ H _ _ v u Q I rx ry ⟨_, _, rfl, rfl, Nat.le_trans h1 line_lim, k.here F h (.str _)⟩
  case add.list.list =>
    obtain ⟨a, xs, rfl, e1, q1⟩ := r1.list F.sub
    obtain ⟨b, ys, rfl, e2, q2⟩ := r2.list F.sub
    obtain ⟨h1, h⟩ := h
    refine op_cat pins s σ H _ _ v u Q I rx ry ⟨a, b, xs, ys, rfl, rfl, e1, e2, ?_, fun z hz => k.newL F h (q1.append q2) hz⟩
    rw [q1.length, q2.length]
    exact Nat.le_trans h1 line_lim
  case add.tuple.tuple =>
    obtain ⟨a, xs, rfl, e1, q1, f1⟩ := r1.tup F.sub
    obtain ⟨b, ys, rfl, e2, q2, f2⟩ := r2.tup F.sub
    obtain ⟨h1, h⟩ := h
    rw [← hK] at e1 e2
    refine op_catN pins s σ H _ _ v u Q I rx ry ⟨a, b, xs, ys, rfl, rfl, e1, e2, ?_, fun z => ?_, fun z0 z => ?_, fun z0 z1 => k.newT F h (q1.append q2)⟩
    · rw [q1.length, q2.length]
      exact Nat.le_trans h1 line_lim
    · subst z
      cases q1
      exact k.here F h f2
    · subst z
      cases q2
      rw [List.append_nil] at h
      exact k.here F h f1
  case sub.int.int =>
    obtain rfl := r1.int
    obtain rfl := r2.int
    exact op_sub pins s σ H _ _ v u Q I rx ry ⟨_, _, rfl, rfl, k.here F h (.int _)⟩
  case mul.int.int =>
    obtain rfl := r1.int
    obtain rfl := r2.int
    obtain ⟨h1, h⟩ := h
    exact op_mul pins s σ H _ _ v u Q I rx ry ⟨_, _, rfl, rfl, h1, k.here F h (.int _)⟩
  case mul.list.int xs j =>
    obtain ⟨a, ys, rfl, e1, q1⟩ := r1.list F.sub
    obtain rfl := r2.int
    obtain ⟨⟨h0, h1, h2⟩, h⟩ := h
    refine op_rep pins s σ H _ _ v u Q I rx ry ⟨a, j, ys, rfl, rfl, e1, by omega, by omega, ?_, fun z hz => k.newL F h (q1.rep _) hz⟩
    rw [q1.length]
    have h3 : j.toNat ≤ 1000 := by omega
    have := Nat.mul_le_mul h2 h3
    rw [sizeLine_eq]
    omega
  case mul.tuple.int xs j =>
    obtain ⟨a, ys, rfl, e1, q1, f1⟩ := r1.tup F.sub
    obtain rfl := r2.int
    obtain ⟨⟨h00, h0, h1, h2⟩, h⟩ := h
    rw [← hK] at e1
    refine op_repN pins s σ H _ _ v u Q I rx ry ⟨a, j, ys, rfl, rfl, e1, ?_, h0, h1, by rw [q1.length]; exact h2, k.newT F h (q1.rep _)⟩
    intro z
    subst z
    cases q1
    exact h00 rfl
  case mod.int.int =>
    obtain rfl := r1.int
    obtain rfl := r2.int
    obtain ⟨h1, h⟩ := h
    exact op_mod pins s σ H _ _ v u Q I rx ry ⟨_, _, rfl, rfl, h1, k.here F h (.int _)⟩
  case fdiv.int.int =>
    obtain rfl := r1.int
    obtain rfl := r2.int
    obtain ⟨h1, h⟩ := h
    exact op_fdiv pins s σ H _ _ v u Q I rx ry ⟨_, _, rfl, rfl, h1, k.here F h (.int _)⟩
def cmpB (o : Cmp) (x y : PyData) (p : PyData → Prop) : Prop := cmpD o x y fun c => p (.bool c)
theorem fit_of {d e : PyData} (h : (fit d && fit e) = true) : (d.plain = true ∧ d.depth ≤ 60) ∧ (e.plain = true ∧ e.depth ≤ 60) := by
  unfold fit at h
  simpa [Bool.and_eq_true] using h
theorem asI_inv {d : PyData} {k : Int → Prop} (h : asI d k) : ∃ i, d = .int i ∧ k i := by
  cases d <;> first | exact ⟨_, rfl, h⟩ | exact (show False from h).elim
theorem asB_inv {d : PyData} {k : Bool → Prop} (h : asB d k) : ∃ i, d = .bool i ∧ k i := by
  cases d <;> first | exact ⟨_, rfl, h⟩ | exact (show False from h).elim
theorem asL_inv {d : PyData} {k : List PyData → Prop} (h : asL d k) : ∃ i, d = .list i ∧ k i := by
  cases d <;> first | exact ⟨_, rfl, h⟩ | exact (show False from h).elim
theorem asT_inv {d : PyData} {k : List PyData → Prop} (h : asT d k) : ∃ i, d = .tuple i ∧ k i := by
  cases d <;> first | exact ⟨_, rfl, h⟩ | exact (show False from h).elim
theorem asS_inv {d : PyData} {k : List PyData → Prop} (h : asS d k) : ∃ xs, (d = .list xs ∨ d = .tuple xs) ∧ k xs := by
  cases d <;> first | exact ⟨_, .inl rfl, h⟩ | exact ⟨_, .inr rfl, h⟩ | exact (show False from h).elim
theorem asX_inv {d : PyData} {k : Str → Prop} (h : asX d k) : ∃ x, d = .str x ∧ k x := by
  cases d <;> first | exact ⟨_, rfl, h⟩ | exact (show False from h).elim
theorem inD_inv {d1 d2 : PyData} {p : Bool → Prop} (h : inD d1 d2 p) : (∃ xs, (d2 = .list xs ∨ d2 = .tuple xs) ∧ (fit d1 && fit d2) = true ∧ p (memD d1 xs)) ∨
    (∃ y z, d1 = .str y ∧ d2 = .str z ∧ y.cps.size = 1 ∧ p (decide (y.cps.getD 0 0 ∈ z.cps.toList))) ∨ ∃ y kvs, d1 = .str y ∧ d2 = .dict kvs ∧ p (getD kvs y).isSome := by
  cases d2 with
  | list xs => exact .inl ⟨xs, .inl rfl, h⟩
  | tuple xs => exact .inl ⟨xs, .inr rfl, h⟩
  | str z => obtain ⟨y, rfl, h⟩ := asX_inv h; exact .inr (.inl ⟨y, z, rfl, rfl, h⟩)
  | dict kvs => obtain ⟨y, rfl, h⟩ := asX_inv h; exact .inr (.inr ⟨y, kvs, rfl, rfl, h⟩)
  | _ => exact (show False from h).elim
theorem sign_is {y : Str} (h : y.cps.size = 1) : y = ⟨#[y.cps.getD 0 0]⟩ := by
  obtain ⟨⟨l⟩⟩ := y
  match l, h with
  | [a], _ => rfl
/-- what the dict holds at a text -/
theorem val_at {K : PySem.W.Frag} {G : Hp} {y : Str} : ∀ {ks : List Str} {xs : List V} {ds : List PyData}, ks.length = ds.length → Rps K G xs ds → (valV ((ks.map (Sum.inr : Str → Key)).zip xs) (.inr y) = none ∧ getD (encP (ks.zip ds)) y = none) ∨
    ∃ v d, valV ((ks.map (Sum.inr : Str → Key)).zip xs) (.inr y) = some v ∧ getD (encP (ks.zip ds)) y = some d ∧ Rp K G v d
  | [], _, _, _, _ => .inl ⟨by simp [valV], by simp [encP, getD]⟩
  | k :: ks, [], [], l, .nil => by simp at l
  | k :: ks, v :: xs, d :: ds, l, .cons a b => by
    have ih := val_at (y := y) (ks := ks) (by simpa using l) b
    by_cases e : k = y
    · subst e
      exact .inr ⟨v, d, valV_pos rfl, by simp [encP, getD], a⟩
    · have e1 : valV (((k :: ks).map (Sum.inr : Str → Key)).zip (v :: xs)) (.inr y) = valV ((ks.map (Sum.inr : Str → Key)).zip xs) (.inr y) := valV_neg (fun z => e (Sum.inr.inj z))
      have e2 : getD (encP ((k :: ks).zip (d :: ds))) y = getD (encP (ks.zip ds)) y := by simp [encP, getD, e]
      rw [e2, e1]
      exact ih
theorem val_some {K : PySem.W.Frag} {G : Hp} {y : Str} {ks : List Str} {xs : List V} {ds : List PyData} (l : ks.length = ds.length) (r : Rps K G xs ds) : (valV ((ks.map (Sum.inr : Str → Key)).zip xs) (.inr y)).isSome = (getD (encP (ks.zip ds)) y).isSome := by
  rcases val_at (y := y) l r with ⟨h1, h2⟩ | ⟨v, d, h1, h2, _⟩ <;> rw [h1, h2] <;> rfl
theorem one_inv {ds : List PyData} {k : PyData → Prop} (h : one ds k) : ∃ d, ds = [d] ∧ k d := by
  match ds, h with
  | [d], h => exact ⟨d, rfl, h⟩
theorem units_le {a b c : Nat} (h : a + 200 < c) (hb : b ≤ 100) : a + b < c := by omega
theorem is_plain (b : Value) : ∀ v : V, ∀ u : Value, RelV v u → (b = .none ∨ ∃ c, b = .bool c) → PySem.plainIs u b = true := by
  intro v u r hb
  cases v with
  | non => cases r; rcases hb with rfl | ⟨c, rfl⟩ <;> rfl
  | bl x => cases r; rcases hb with rfl | ⟨c, rfl⟩ <;> rfl
  | int x => obtain ⟨t, rfl⟩ := r; rcases hb with rfl | ⟨c, rfl⟩ <;> rfl
  | str x => obtain ⟨t, rfl⟩ := r; rcases hb with rfl | ⟨c, rfl⟩ <;> rfl
  | byt x => obtain ⟨t, rfl⟩ := r; rcases hb with rfl | ⟨c, rfl⟩ <;> rfl
  | flt x => obtain ⟨t, rfl⟩ := r; rcases hb with rfl | ⟨c, rfl⟩ <;> rfl
  | ref x => cases r; rcases hb with rfl | ⟨c, rfl⟩ <;> rfl
  | ty x => cases r; rcases hb with rfl | ⟨c, rfl⟩ <;> rfl
/-- by data, None or a bool on the right: what is says -/
theorem is_val {K : PySem.W.Frag} {DF : DFt} {G H : Hp} {x y : V} {v u : Value} {d1 d2 : PyData} {k : Bool → Prop} (r1 : Rb K DF G H x d1) (r2 : Rb K DF G H y d2) (rx : RelV x v) (ry : RelV y u) (h : isD d1 d2 k) : PySem.plainIs v u = true ∧ k (v == u) := by
  have key : ∀ b : Bool, d2 = .bool b → u = .bool b := fun b e => by
    subst e
    obtain rfl := r2.bool
    exact ry
  have keyn : d2 = .none → u = .none := fun e => by
    subst e
    rcases r2 with r | ⟨_, _, _, z⟩
    · cases r; exact ry
    · exact z.elim
  have hv : (d1 = .none ∧ v = .none) ∨ (∃ b, d1 = .bool b ∧ v = .bool b) ∨ (isNoneD d1 = false ∧ (∀ b, isBD d1 b = false) ∧ (v == Value.none) = false ∧ ∀ b, (v == Value.bool b) = false) := by
    cases d1 with
    | none =>
      rcases r1 with r | ⟨_, _, _, z⟩
      · cases r; exact .inl ⟨rfl, rx⟩
      · exact z.elim
    | bool b => obtain rfl := r1.bool; exact .inr (.inl ⟨b, rfl, rx⟩)
    | int b => obtain rfl := r1.int; obtain ⟨t, rfl⟩ := rx; exact .inr (.inr ⟨rfl, fun _ => rfl, rfl, fun _ => rfl⟩)
    | str b => obtain rfl := r1.str; obtain ⟨t, rfl⟩ := rx; exact .inr (.inr ⟨rfl, fun _ => rfl, rfl, fun _ => rfl⟩)
    | list b =>
      rcases r1 with r | ⟨_, rfl, _, z⟩
      · cases r; cases rx; exact .inr (.inr ⟨rfl, fun _ => rfl, rfl, fun _ => rfl⟩)
      · cases rx; exact .inr (.inr ⟨rfl, fun _ => rfl, rfl, fun _ => rfl⟩)
    | tuple b =>
      rcases r1 with r | ⟨_, rfl, _, z⟩
      · cases r; cases rx; exact .inr (.inr ⟨rfl, fun _ => rfl, rfl, fun _ => rfl⟩)
      · exact z.elim
    | dict b =>
      rcases r1 with r | ⟨_, rfl, _, z⟩
      · cases r; cases rx; exact .inr (.inr ⟨rfl, fun _ => rfl, rfl, fun _ => rfl⟩)
      · exact z.elim
  cases d2 with
  | none =>
    obtain rfl := keyn rfl
    refine ⟨is_plain _ x v rx (.inl rfl), ?_⟩
    have h : k (isNoneD d1) := h
    rcases hv with ⟨rfl, rfl⟩ | ⟨b, rfl, rfl⟩ | ⟨h1, _, h2, _⟩
    · exact h
    · exact h
    · rw [h2, ← h1]; exact h
  | bool b =>
    obtain rfl := key b rfl
    refine ⟨is_plain _ x v rx (.inr ⟨b, rfl⟩), ?_⟩
    have h : k (isBD d1 b) := h
    rcases hv with ⟨rfl, rfl⟩ | ⟨c, rfl, rfl⟩ | ⟨_, h1, _, h2⟩
    · exact h
    · have : (Value.bool c == Value.bool b) = (c == b) := by cases c <;> cases b <;> rfl
      rw [this]; exact h
    · rw [h2, ← h1 b]; exact h
  | _ => exact (show False from h).elim
theorem cmp_ok (hX : Cxo P X S N cs) (o : Cmp) : OpR X (compareOp (cmpO o)) (rO P (cmpB o)) := by
  intro pins s σ H x y v u Q I rx ry h
  obtain ⟨DF, G, σ', ρ, p, d1, d2, F, r1, r2, h, k⟩ := h
  have hK := hX.K
  have hu := hX.units
  have rd1 : d1.plain = true → ∃ as, Reads s.heap v d1 as := fun z => Dp.reads I d1 x v (by rw [hK]; exact r1.dp F.sub z) rx
  have rd2 : d2.plain = true → ∃ as, Reads s.heap u d2 as := fun z => Dp.reads I d2 y u (by rw [hK]; exact r2.dp F.sub z) ry
  have fin : ∀ c : Bool, p (.bool c) → EP X pins σ Q (.bool c) s := fun c hc => ⟨.bl c, H, I, rfl, k.here F hc (.bl c)⟩
  cases o with
  | eq =>
    obtain ⟨hf, h⟩ : (fit d1 && fit d2) = true ∧ p (.bool (PyData.eqv d1 d2)) := h
    obtain ⟨⟨f1, f2⟩, f3, f4⟩ := fit_of hf
    obtain ⟨as, R1⟩ := rd1 f1
    obtain ⟨bs, R2⟩ := rd2 f3
    exact SeqAt.eq_plain R1 R2 f1 f3 (units_le hu (by omega)) (fin _ h)
  | ne =>
    obtain ⟨hf, h⟩ : (fit d1 && fit d2) = true ∧ p (.bool (!PyData.eqv d1 d2)) := h
    obtain ⟨⟨f1, f2⟩, f3, f4⟩ := fit_of hf
    obtain ⟨as, R1⟩ := rd1 f1
    obtain ⟨bs, R2⟩ := rd2 f3
    exact SeqAt.ne_plain R1 R2 f1 f3 (units_le hu (by omega)) (fin _ h)
  | lt =>
    obtain ⟨i, rfl, h⟩ := asI_inv (show asI d1 _ from h)
    obtain ⟨j, rfl, h⟩ := asI_inv h
    obtain rfl := r1.int
    obtain rfl := r2.int
    exact op_lt pins s σ H _ _ v u Q I rx ry ⟨_, _, rfl, rfl, k.here F h (.bl _)⟩
  | le =>
    obtain ⟨i, rfl, h⟩ := asI_inv (show asI d1 _ from h)
    obtain ⟨j, rfl, h⟩ := asI_inv h
    obtain rfl := r1.int
    obtain rfl := r2.int
    exact op_le pins s σ H _ _ v u Q I rx ry ⟨_, _, rfl, rfl, k.here F h (.bl _)⟩
  | gt =>
    obtain ⟨i, rfl, h⟩ := asI_inv (show asI d1 _ from h)
    obtain ⟨j, rfl, h⟩ := asI_inv h
    obtain rfl := r1.int
    obtain rfl := r2.int
    exact op_gt pins s σ H _ _ v u Q I rx ry ⟨_, _, rfl, rfl, k.here F h (.bl _)⟩
  | ge =>
    obtain ⟨i, rfl, h⟩ := asI_inv (show asI d1 _ from h)
    obtain ⟨j, rfl, h⟩ := asI_inv h
    obtain rfl := r1.int
    obtain rfl := r2.int
    exact op_ge pins s σ H _ _ v u Q I rx ry ⟨_, _, rfl, rfl, k.here F h (.bl _)⟩
  | is_ =>
    obtain ⟨h1, h2⟩ := is_val r1 r2 rx ry (show isD d1 d2 _ from h)
    by_cases e : v = u
    · subst e
      exact wpAny_is_self h1 (fin _ (by simpa using h2))
    · exact wpAny_is_other h1 e (fin _ (by rw [beq_eq_false_iff_ne.mpr e] at h2; exact h2))
  | isn =>
    obtain ⟨h1, h2⟩ := is_val r1 r2 rx ry (show isD d1 d2 _ from h)
    by_cases e : v = u
    · subst e
      exact wpAny_isNot_self h1 (fin _ (by simpa using h2))
    · exact wpAny_isNot_other h1 e (fin _ (by rw [beq_eq_false_iff_ne.mpr e] at h2; exact h2))
  | in_ =>
    rcases inD_inv (show inD d1 d2 _ from h) with ⟨xs, hxs, hf, hq⟩ | ⟨y1, z1, rfl, rfl, h1, hq⟩ | ⟨y1, kvs, rfl, rfl, hq⟩
    · obtain ⟨⟨f1, f2⟩, f3, f4⟩ := fit_of hf
      obtain ⟨as, R1⟩ := rd1 f1
      obtain ⟨bs, R2⟩ := rd2 f3
      rcases hxs with rfl | rfl
      · exact SeqAt.in_list_data R2 R1 f3 f1 (by omega) (fin _ hq)
      · exact SeqAt.in_tuple_data R2 R1 f3 f1 (by omega) (fin _ hq)
    · obtain rfl := r1.str
      obtain rfl := r2.str
      exact op_in_sign pins s σ H _ _ v u Q I rx ry ⟨y1.cps.getD 0 0, z1, by rw [← sign_is h1], rfl, k.here F hq (.bl _)⟩
    · obtain rfl := r1.str
      obtain ⟨a, ks, xs, ds, rfl, rfl, e, l, nd, r⟩ := r2.dict F.sub
      cases ry
      refine d_in (units_le hu (by omega)) I (DGet.k (k := .inr y1) e) rx fun s' I' => ⟨.bl _, H, I', rfl, ?_⟩
      rw [val_some l r]
      exact k.here F hq (.bl _)
  | nin =>
    rcases inD_inv (show inD d1 d2 _ from h) with ⟨xs, hxs, hf, hq⟩ | ⟨y1, z1, rfl, rfl, h1, hq⟩ | ⟨y1, kvs, rfl, rfl, hq⟩
    · obtain ⟨⟨f1, f2⟩, f3, f4⟩ := fit_of hf
      obtain ⟨as, R1⟩ := rd1 f1
      obtain ⟨bs, R2⟩ := rd2 f3
      rcases hxs with rfl | rfl
      · exact SeqAt.notIn_list_data R2 R1 f3 f1 (by omega) (fin _ hq)
      · exact SeqAt.notIn_tuple_data R2 R1 f3 f1 (by omega) (fin _ hq)
    · obtain rfl := r1.str
      obtain rfl := r2.str
      exact op_notIn_sign pins s σ H _ _ v u Q I rx ry ⟨y1.cps.getD 0 0, z1, by rw [← sign_is h1], rfl, k.here F hq (.bl _)⟩
    · obtain rfl := r1.str
      obtain ⟨a, ks, xs, ds, rfl, rfl, e, l, nd, r⟩ := r2.dict F.sub
      cases ry
      refine d_notIn (units_le hu (by omega)) I (DGet.k (k := .inr y1) e) rx fun s' I' => ⟨.bl _, H, I', rfl, ?_⟩
      rw [val_some l r]
      exact k.here F hq (.bl _)
end
end Pv
set_option Elab.async false
set_option linter.all false
set_option maxRecDepth 100000
set_option maxHeartbeats 4000000
/-! Core 5: built-in functions over plain data. Own work. -/
set_option autoImplicit false
namespace Pv
open PySem PySem.Spec L2

def rP (P : Px) (q : Prim) : List V → Hp → VK → Prop := fun vs H Q => ∃ DF G σ ρ p ds, FrD P DF σ ρ G H ∧ Rbs P.K DF G H vs ds ∧ primD q ds p ∧ KV P DF σ ρ G H p Q
section
variable {P : Px} {X : Cx} {S : Scope} {N : List Str} {cs : List (Str × PyData)} {DF : DFt} {σ : L2.St} {ρ : Env} {G H : Hp} {p : PyData → Prop} {Q : VK}
theorem Rbs.inv1 {K : PySem.W.Frag} {DF : DFt} {G H : Hp} {vs : List V} {d : PyData} (r : Rbs K DF G H vs [d]) : ∃ v, vs = [v] ∧ Rb K DF G H v d := by
  cases r with
  | cons a b => cases b; exact ⟨_, rfl, a⟩
/-- a list or a tuple, read: its items in the heap -/
theorem seq_read (hX : Cxo P X S N cs) {pins : List (Addr × Obj)} {σ0 : L2.St} {s : Shared} (I : Inv X pins σ0 H s) (F : FrD P DF σ ρ G H) {x : V} {u : Value} {d : PyData} {xs : List PyData} (r : Rb P.K DF G H x d) (rx : RelV x u) (hd : d = .list xs ∨ d = .tuple xs) (hpl : PyData.plainAll xs = true) :
    ∃ (a : Addr) (ys : List V) (its : List Value) (as : List Addr), x = .ref a ∧ u = .ref a ∧ Rps P.K G ys xs ∧ Vals ys its ∧ ReadsAll s.heap its xs as ∧ its.length ≤ sizeLine ∧
      ((d = .list xs ∧ SqL X.K H a ys ∧ s.heap.IsList a its.toArray) ∨ (d = .tuple xs ∧ SqT X.K H a ys ∧ PyProof.Rows.IsTup s.heap a its.toArray ∧ Rp P.K G x d)) := by
  have hK := hX.K
  rcases hd with rfl | rfl
  · obtain ⟨a, ys, rfl, e1, q1⟩ := r.list F.sub
    have hS : SqL X.K H a ys := SqL.of e1
    obtain ⟨its, rv, pl, hz⟩ := I.list hS
    have dp := q1.dp F.sub hpl
    rw [← hK] at dp
    obtain ⟨as, hr⟩ := Dp.readsAll I xs ys its dp rv
    cases rx
    exact ⟨a, ys, its, as, rfl, rfl, q1, rv, hr, by rw [← rv.length]; exact hz, .inl ⟨rfl, hS, pl.isList⟩⟩
  · obtain ⟨a, ys, rfl, e1, q1, f1⟩ := r.tup F.sub
    rw [← hK] at e1
    obtain ⟨its, rv, pl, hz⟩ := I.tuple e1
    have dp := q1.dp F.sub hpl
    rw [← hK] at dp
    obtain ⟨as, hr⟩ := Dp.readsAll I xs ys its dp rv
    cases rx
    exact ⟨a, ys, its, as, rfl, rfl, q1, rv, hr, by rw [← rv.length]; exact hz, .inr ⟨rfl, e1, pl, f1⟩⟩
theorem plainAll_mem {d : PyData} : ∀ {xs : List PyData}, PyData.plainAll xs = true → d ∈ xs → d.plain = true
  | _ :: _, h, m => by
    rw [PyData.plainAll, Bool.and_eq_true] at h
    rcases List.mem_cons.mp m with rfl | m
    · exact h.1
    · exact plainAll_mem h.2 m
/-- an item of the sequence that reads as m is the data m -/
theorem item_back (hX : Cxo P X S N cs) {pins : List (Addr × Obj)} {σ0 : L2.St} {s : Shared} (I : Inv X pins σ0 H s) (F : FrD P DF σ ρ G H) {ys : List V} {its : List Value} {xs : List PyData} (q : Rps P.K G ys xs) (rv : Vals ys its) (hp : PyData.plainAll xs = true)
    {i : Nat} {v : Value} {m : PyData} {h' : Heap} {bs : List Addr} (hi : its[i]? = some v) (hm : Reads h' v m bs) (k : ∀ b o, s.heap.get? b = some o → h'.get? b = some o) : ∃ y, RelV y v ∧ Rp P.K G y m := by
  have hl := rv.length
  have hi' : i < ys.length := by
    rw [hl]
    exact (List.getElem?_eq_some_iff.mp hi).1
  obtain ⟨u, hu, ru⟩ := rv.get (List.getElem?_eq_getElem hi')
  rw [hi] at hu
  cases hu
  obtain ⟨d, hd, rd⟩ := q.getV (List.getElem?_eq_getElem hi')
  have dp := rd.dp F.sub (plainAll_mem hp (List.mem_of_getElem? hd))
  rw [← hX.K] at dp
  obtain ⟨as, hr⟩ := Dp.reads I d _ v dp ru
  have e := SeqAt.plain_unique d m v as bs (plainAll_mem hp (List.mem_of_getElem? hd)) (PyProof.Rows.Reads.keeps k hr) hm
  subst e
  exact ⟨_, ru, rd⟩
theorem prim_len (hX : Cxo P X S N cs) : CallR X (.builtin "len") (rP P .len) := by
  intro pins s σ0 H vs us Q I r h
  obtain ⟨DF, G, σ, ρ, p, ds, F, rs, h, k⟩ := h
  obtain ⟨d, rfl, h⟩ := one_inv (show one ds _ from h)
  obtain ⟨v, rfl, rb⟩ := rs.inv1
  have hK := hX.K
  refine call_len pins s σ0 H [v] us Q I r ⟨v, ?_⟩
  cases d with
  | list xs =>
    obtain ⟨a, ys, rfl, e1, q1⟩ := rb.list F.sub
    exact ⟨xs.length, rfl, .inl ⟨_, SqL.of e1, q1.length.symm⟩, k.here F h (.int _)⟩
  | tuple xs =>
    obtain ⟨a, ys, rfl, e1, q1, f1⟩ := rb.tup F.sub
    exact ⟨xs.length, rfl, .inr ⟨_, by rw [hK]; exact e1, q1.length.symm⟩, k.here F h (.int _)⟩
  | str x =>
    obtain rfl := rb.str
    exact ⟨x.length, rfl, ⟨Nat.le_trans h.1 line_lim, rfl⟩, k.here F h.2 (.int _)⟩
  | _ => exact (show False from h).elim
theorem headOr_inv {xs : List PyData} {k : PyData → List PyData → Prop} (h : headOr xs k) : ∃ x r, xs = x :: r ∧ k x r := by
  match xs, h with
  | x :: r, h => exact ⟨x, r, rfl, h⟩
theorem prim_mn (hX : Cxo P X S N cs) : CallR X (.builtin "min") (rP P .mn) := by
  intro pins s σ0 H vs us Q I r h
  obtain ⟨DF, G, σ, ρ, p, ds, F, rs, h, k⟩ := h
  obtain ⟨d, rfl, h⟩ := one_inv (show one ds _ from h)
  obtain ⟨v, rfl, rb⟩ := rs.inv1
  obtain ⟨u, rfl, ru⟩ := vals1 r
  obtain ⟨xs, hd, h⟩ := asS_inv h
  obtain ⟨x, r', rfl, ⟨ha, hdp, hpl⟩, h⟩ := headOr_inv h
  obtain ⟨a, ys, its, as, rfl, rfl, q, rv, hr, hz, hh⟩ := seq_read hX I F rb ru hd hpl
  have hu := hX.units
  have fin : ∀ (i : Nat) v h' tk bs, its.toArray[i]? = some v → Reads h' v (W.minD x r') bs → (∀ b o, s.heap.get? b = some o → h'.get? b = some o) → EP X pins σ0 Q v { s with heap := h', toks := tk } := fun i v h' tk bs hi hm kk => by
    obtain ⟨y, ry, rp⟩ := item_back hX I F q rv hpl (by simpa using hi) hm kk
    exact ⟨y, H, I.kept kk, ry, k.here F h rp⟩
  rcases hh with ⟨_, _, hl⟩ | ⟨_, _, hl, _⟩
  · exact W.min_list_data hX.hd hl hr ha (by omega) fin
  · exact W.min_tuple_data hX.hd hl hr ha (by omega) fin
theorem prim_mx (hX : Cxo P X S N cs) : CallR X (.builtin "max") (rP P .mx) := by
  intro pins s σ0 H vs us Q I r h
  obtain ⟨DF, G, σ, ρ, p, ds, F, rs, h, k⟩ := h
  obtain ⟨d, rfl, h⟩ := one_inv (show one ds _ from h)
  obtain ⟨v, rfl, rb⟩ := rs.inv1
  obtain ⟨u, rfl, ru⟩ := vals1 r
  obtain ⟨xs, hd, h⟩ := asS_inv h
  obtain ⟨x, r', rfl, ⟨ha, hdp, hpl⟩, h⟩ := headOr_inv h
  obtain ⟨a, ys, its, as, rfl, rfl, q, rv, hr, hz, hh⟩ := seq_read hX I F rb ru hd hpl
  have hu := hX.units
  have fin : ∀ (i : Nat) v h' tk bs, its.toArray[i]? = some v → Reads h' v (W.maxD x r') bs → (∀ b o, s.heap.get? b = some o → h'.get? b = some o) → EP X pins σ0 Q v { s with heap := h', toks := tk } := fun i v h' tk bs hi hm kk => by
    obtain ⟨y, ry, rp⟩ := item_back hX I F q rv hpl (by simpa using hi) hm kk
    exact ⟨y, H, I.kept kk, ry, k.here F h rp⟩
  rcases hh with ⟨_, _, hl⟩ | ⟨_, _, hl, _⟩
  · exact W.max_list_data hX.hd hl hr ha (by omega) fin
  · exact W.max_tuple_data hX.hd hl hr ha (by omega) fin
theorem prim_abs (hX : Cxo P X S N cs) : CallR X (.builtin "abs") (rP P .abs) := by
  intro pins s σ0 H vs us Q I r h
  obtain ⟨DF, G, σ, ρ, p, ds, F, rs, h, k⟩ := h
  obtain ⟨d, rfl, h⟩ := one_inv (show one ds _ from h)
  obtain ⟨v, rfl, rb⟩ := rs.inv1
  obtain ⟨i, rfl, h⟩ := asI_inv h
  obtain rfl := rb.int
  exact call_abs pins s σ0 H _ us Q I r ⟨i, rfl, k.here F h (.int _)⟩
theorem bools {xs : List PyData} (h : xs.all isBoolD = true) : PyData.plainAll xs = true ∧ (∀ x ∈ xs, x.fits63) ∧ xs.all PyData.truthy = xs.all isTrueD ∧ xs.any PyData.truthy = xs.any isTrueD := by
  induction xs with
  | nil => exact ⟨rfl, fun _ h => (nomatch h), rfl, rfl⟩
  | cons x r ih =>
    rw [List.all_cons, Bool.and_eq_true] at h
    obtain ⟨h1, h2⟩ := h
    obtain ⟨a, b, c, d⟩ := ih h2
    cases x with
    | bool t =>
      refine ⟨by rw [PyData.plainAll, a]; rfl, fun y hy => ?_, by rw [List.all_cons, List.all_cons, c]; rfl, by rw [List.any_cons, List.any_cons, d]; rfl⟩
      rcases List.mem_cons.mp hy with rfl | hy
      · trivial
      · exact b y hy
    | _ => cases h1
theorem prim_all (hX : Cxo P X S N cs) : CallR X (.builtin "all") (rP P .all) := by
  intro pins s σ0 H vs us Q I r h
  obtain ⟨DF, G, σ, ρ, p, ds, F, rs, h, k⟩ := h
  obtain ⟨d, rfl, h⟩ := one_inv (show one ds _ from h)
  obtain ⟨v, rfl, rb⟩ := rs.inv1
  obtain ⟨u, rfl, ru⟩ := vals1 r
  obtain ⟨xs, hd, hb, h⟩ := asS_inv h
  obtain ⟨b1, b2, b3, b4⟩ := bools hb
  obtain ⟨a, ys, its, as, rfl, rfl, q, rv, hr, hz, hh⟩ := seq_read hX I F rb ru hd b1
  rw [← b3] at h
  have fin : ∀ h' tk, (∀ b o, s.heap.get? b = some o → h'.get? b = some o) → EP X pins σ0 Q (.bool (xs.all PyData.truthy)) { s with heap := h', toks := tk } := fun h' tk kk => ⟨.bl _, H, I.kept kk, rfl, k.here F h (.bl _)⟩
  rcases hh with ⟨_, _, hl⟩ | ⟨_, _, hl, _⟩
  · exact W.all_list_data hX.hd hl hr b1 b2 fin
  · exact W.all_tuple_data hX.hd hl hr b1 b2 fin
theorem prim_any (hX : Cxo P X S N cs) : CallR X (.builtin "any") (rP P .any) := by
  intro pins s σ0 H vs us Q I r h
  obtain ⟨DF, G, σ, ρ, p, ds, F, rs, h, k⟩ := h
  obtain ⟨d, rfl, h⟩ := one_inv (show one ds _ from h)
  obtain ⟨v, rfl, rb⟩ := rs.inv1
  obtain ⟨u, rfl, ru⟩ := vals1 r
  obtain ⟨xs, hd, hb, h⟩ := asS_inv h
  obtain ⟨b1, b2, b3, b4⟩ := bools hb
  obtain ⟨a, ys, its, as, rfl, rfl, q, rv, hr, hz, hh⟩ := seq_read hX I F rb ru hd b1
  rw [← b4] at h
  have fin : ∀ h' tk, (∀ b o, s.heap.get? b = some o → h'.get? b = some o) → EP X pins σ0 Q (.bool (xs.any PyData.truthy)) { s with heap := h', toks := tk } := fun h' tk kk => ⟨.bl _, H, I.kept kk, rfl, k.here F h (.bl _)⟩
  rcases hh with ⟨_, _, hl⟩ | ⟨_, _, hl, _⟩
  · exact W.any_list_data hX.hd hl hr b1 b2 fin
  · exact W.any_tuple_data hX.hd hl hr b1 b2 fin
theorem prim_tup (hX : Cxo P X S N cs) : CallR X (.type "tuple") (rP P .tup) := by
  intro pins s σ0 H vs us Q I r h
  obtain ⟨DF, G, σ, ρ, p, ds, F, rs, h, k⟩ := h
  obtain ⟨d, rfl, h⟩ := one_inv (show one ds _ from h)
  obtain ⟨v, rfl, rb⟩ := rs.inv1
  obtain ⟨xs, hd, h⟩ := asS_inv h
  rcases hd with rfl | rfl
  · obtain ⟨a, ys, rfl, e1, q1⟩ := rb.list F.sub
    exact call_tupleN pins s σ0 H _ us Q I r ⟨a, ys, rfl, .inl ⟨SqL.of e1, k.newT F h q1⟩⟩
  · obtain ⟨a, ys, rfl, e1, q1, f1⟩ := rb.tup F.sub
    rw [← hX.K] at e1
    exact call_tupleN pins s σ0 H _ us Q I r ⟨a, ys, rfl, .inr ⟨e1, k.here F h f1⟩⟩
theorem prim_int (hX : Cxo P X S N cs) : CallR X (.type "int") (rP P .int) := by
  intro pins s σ0 H vs us Q I r h
  obtain ⟨DF, G, σ, ρ, p, ds, F, rs, h, k⟩ := h
  obtain ⟨d, rfl, h⟩ := one_inv (show one ds _ from h)
  obtain ⟨v, rfl, rb⟩ := rs.inv1
  cases d with
  | int i =>
    obtain rfl := rb.int
    exact call_int1 pins s σ0 H _ us Q I r (.inl ⟨i, rfl, k.here F h (.int _)⟩)
  | bool b =>
    obtain rfl := rb.bool
    exact call_int1 pins s σ0 H _ us Q I r (.inr ⟨b, rfl, k.here F h (.int _)⟩)
  | _ => exact (show False from h).elim
theorem ints_of {K : PySem.W.Frag} {G : Hp} : ∀ {ys : List V} {xs : List PyData}, Rps K G ys xs → xs.all isIntT = true → ∃ ns : List Int, ys = ns.map V.int ∧ xs = ns.map PyData.int
  | _, _, .nil, _ => ⟨[], rfl, rfl⟩
  | _, _, .cons a b, h => by
    rw [List.all_cons, Bool.and_eq_true] at h
    obtain ⟨ns, rfl, rfl⟩ := ints_of b h.2
    cases a with
    | int i => exact ⟨i :: ns, rfl, rfl⟩
    | _ => cases h.1
theorem prim_sum (hX : Cxo P X S N cs) : CallR X (.builtin "sum") (rP P .sum) := by
  intro pins s σ0 H vs us Q I r h
  obtain ⟨DF, G, σ, ρ, p, ds, F, rs, h, k⟩ := h
  obtain ⟨d, rfl, h⟩ := one_inv (show one ds _ from h)
  obtain ⟨v, rfl, rb⟩ := rs.inv1
  obtain ⟨xs, rfl, h1, h⟩ := asL_inv h
  obtain ⟨a, ys, rfl, e1, q1⟩ := rb.list F.sub
  obtain ⟨ns, rfl, rfl⟩ := ints_of q1 h1
  have e : (ns.map PyData.int).map toI = ns := by rw [List.map_map]; exact List.map_id ns
  rw [e] at h
  exact cr_sum hX.calm pins s σ0 H _ us Q I r ⟨a, ns, rfl, SqL.of e1, k.here F h (.int _)⟩
/-- pairs, read -/
theorem pairs_read {K : PySem.W.Frag} {G : Hp} : ∀ {ys : List V} {xs : List PyData} {k : List (Str × PyData) → Prop}, Rps K G ys xs → pairsD xs k → ∃ (l : List (Str × PyData)) (ps : List Addr) (zs : List V), k l ∧ ys = ps.map V.ref ∧
    Rps K G zs (l.map (·.2)) ∧ Paired (fun p (kv : Key × V) => SqT K G p [kV kv.1, kv.2]) ps (((l.map (·.1)).map (Sum.inr : Str → Key)).zip zs)
  | _, [], k, .nil, h => ⟨[], [], [], h, rfl, .nil, .nil⟩
  | _, .tuple [.str x, d] :: r, k, .cons a b, h => by
    obtain ⟨l, ps, zs, h1, rfl, h2, h3⟩ := pairs_read (k := fun l => k ((x, d) :: l)) b h
    cases a with
    | tup e rs =>
      cases rs with
      | cons r1 r2 =>
        cases r2 with
        | cons r2 r3 =>
          cases r3
          cases r1
          exact ⟨(x, d) :: l, _ :: ps, _ :: zs, h1, rfl, .cons r2 h2, .cons e.sq h3⟩
theorem mergeK_new : ∀ (more kvs : List (Key × V)), (∀ k ∈ more.map (·.1), valV kvs k = none) → (more.map (·.1)).Nodup → mergeK kvs more = kvs ++ more
  | [], kvs, _, _ => by simp [mergeK]
  | p :: more, kvs, h, n => by
    have e : mergeK kvs (p :: more) = mergeK (putK kvs p.1 p.2) more := rfl
    rw [e, putK_new p.2 (h p.1 (by simp))]
    rw [List.map_cons, List.nodup_cons] at n
    rw [mergeK_new more _ (fun k hk => ?_) n.2]
    · simp
    · rw [valV_snoc p.1 k p.2 kvs (h p.1 (by simp)), if_neg (fun z : k = p.1 => n.1 (by rw [← z]; exact hk))]
      exact h k (by simp at hk ⊢; exact .inr hk)
theorem zip_fst {α β : Type} : ∀ {xs : List α} {ys : List β}, xs.length = ys.length → (xs.zip ys).map (·.1) = xs
  | [], _, _ => rfl
  | a :: xs, [], h => by simp at h
  | a :: xs, b :: ys, h => by rw [List.zip_cons_cons, List.map_cons, zip_fst (by simpa using h)]
theorem zip_parts {α β : Type} : ∀ l : List (α × β), (l.map (·.1)).zip (l.map (·.2)) = l
  | [] => rfl
  | a :: l => by rw [List.map_cons, List.map_cons, List.zip_cons_cons, zip_parts l]
theorem prim_dct (hX : Cxo P X S N cs) : CallR X (.type "dict") (rP P .dct) := by
  intro pins s σ0 H vs us Q I r h
  obtain ⟨DF, G, σ, ρ, p, ds, F, rs, h, k⟩ := h
  obtain ⟨d, rfl, h⟩ := one_inv (show one ds _ from h)
  obtain ⟨v, rfl, rb⟩ := rs.inv1
  obtain ⟨xs, hd, h⟩ := asS_inv h
  have key : ∀ {a : Addr} {ys : List V}, Rps P.K G ys xs → ∃ (ps : List Addr) (kvs : List (Key × V)), ys = ps.map V.ref ∧ Paired (fun p kv => SqT X.K H p [kV kv.1, kv.2]) ps kvs ∧ ∀ p, H p = none → Q (.ref p) (upd H p (.dK (mergeK [] kvs))) := fun q1 => by
    obtain ⟨l, ps, zs, ⟨nd, hp⟩, rfl, h2, h3⟩ := pairs_read q1 h
    have lz : ((l.map (·.1)).map (Sum.inr : Str → Key)).length = zs.length := by rw [h2.length]; simp
    refine ⟨ps, _, rfl, Paired.mono (fun a b z => by rw [hX.K]; exact F.sub.sqT z) h3, fun a ha => ?_⟩
    rw [mergeK_new _ [] (fun _ _ => rfl) (by
      rw [zip_fst lz]
      unfold List.Nodup at nd ⊢
      rw [List.pairwise_map]
      exact nd.imp fun hh z => hh (Sum.inr.inj z)), List.nil_append]
    obtain ⟨F1, g, e1⟩ := F.freeze (o := .dK (((l.map (·.1)).map (Sum.inr : Str → Key)).zip zs)) ha
    have : Rp P.K _ (.ref a) (.dict (encP ((l.map (·.1)).zip (l.map (·.2))))) := .dct e1 (by simp) nd (h2.mono g.sub)
    rw [zip_parts] at this
    exact k _ _ _ _ hp F1 g this
  rcases hd with rfl | rfl
  · obtain ⟨a, ys, rfl, e1, q1⟩ := rb.list F.sub
    obtain ⟨ps, kvs, rfl, h1, h2⟩ := key (a := a) q1
    exact call_dictP hX.calm pins s σ0 H _ us Q I r ⟨a, ps, kvs, rfl, SqL.of e1, h1, h2⟩
  · obtain ⟨a, ys, rfl, e1, q1, f1⟩ := rb.tup F.sub
    cases f1 with
    | tup e2 q2 =>
      obtain ⟨ps, kvs, rfl, h1, h2⟩ := key (a := a) q2
      exact call_dictT hX.calm pins s σ0 H _ us Q I r ⟨a, ps, kvs, rfl, by rw [hX.K]; exact F.sub.tuD e2, h1, h2⟩
/-- what follows a new list -/
def KF (P : Px) (DF : DFt) (σ : L2.St) (ρ : Env) (G H : Hp) (p : PyData → Prop) (Q : VK) : Prop := ∀ a xs H' G' ds, p (.list ds) → FrD P DF σ ρ G' H' → Gr P.T DF G H G' H' → Fr0 H a → G' a = none → H' a = some (.lst xs) → Rps P.K G' xs ds → Q (.ref a) H'
theorem KF.step {G1 H1 : Hp} (k : KF P DF σ ρ G H p Q) (g : Gr P.T DF G H G1 H1) : KF P DF σ ρ G1 H1 p Q := fun a xs H' G' ds h F g' n1 n2 e r => k a xs H' G' ds h F (g.trans g') (g.live a n1) n2 e r
theorem KF.new (k : KF P DF σ ρ G H p Q) (F : FrD P DF σ ρ G H) {xs : List V} {ds : List PyData} (h : p (.list ds)) (r : Rps P.K G xs ds) {a : Addr} (n : H a = none) : Q (.ref a) (upd H a (.lst xs)) := by
  obtain ⟨F1, g⟩ := F.more (o := .lst xs) n
  exact k a xs _ G ds h F1 g (.of n) (F.none_of n) upd_same r
/-- a value is what a new list may be taken for -/
theorem KV.kf (k : KV P DF σ ρ G H p Q) (F0 : FrD P DF σ ρ G H) : KF P DF σ ρ G H p Q := fun a xs H' G' ds h F g n gn e r =>
  k _ H' (ud G' a (.lst xs)) _ h (F.ice e gn (F0.h0 n).1 (F0.h0 n).2 (F0.notOwn n)) ⟨g.sub.trans (Sub.upd gn), g.keep, fun b u z => by
    unfold ud at z
    by_cases hb : b = a
    · subst hb; exact .inr n
    · rw [upd_ne hb] at z; exact g.new b u z, g.live, g.tab⟩ (.lst upd_same (r.mono (Sub.upd gn)))
end
end Pv
set_option Elab.async false
set_option linter.all false
set_option maxRecDepth 100000
set_option maxHeartbeats 4000000
/-! Core 6: sorted, list, set by number, isinstance over plain data. Own work. -/
set_option autoImplicit false
namespace Pv
open PySem PySem.Spec L2

/-! ### sorted of a tuple -/
section
open PySem.Calls PyProof.Rows
variable {prog : Program} {w : World} {A : Around} {E : Value → Shared → Prop} {s : Shared}
/-- the items of a tuple, taken into a list of the machine's own -/
theorem tuple_taken {t : Addr} {vs : List Value} {Q : List Value → Shared → Prop} (ht : IsTup s.heap t vs.toArray) (hz : vs.length ≤ sizeLine)
    (q : Q vs { s with heap := (s.heap.push (seqObj "list" #[] 0)).update s.heap.objs.size (Obj.mapSeq (· ++ vs.toArray)) }) : wpAny (model prog w) A (collect (.ref t)) Q E s := by
  obtain ⟨o, e1, e2, n, e3⟩ := ht
  have e4 : (s.heap.push (seqObj "list" #[] 0)).get? t = some o := Heap.get?_push_of_some _ e1
  have e5 : (s.heap.push (seqObj "list" #[] 0)).get? s.heap.objs.size = some (seqObj "list" #[] 0) := Heap.get?_push_size _ rfl
  have e6 : ((#[] : Array Value) ++ vs.toArray).size ≤ sizeLine + 1 := by
    simp
    omega
  have e7 : ((#[] : Array Value) ++ vs.toArray).toList = vs := by simp
  have body : ∀ R : Result → Shared → Prop, R (.ok (.ret (.ref s.heap.objs.size))) { s with heap := (s.heap.push (seqObj "list" #[] 0)).update s.heap.objs.size (Obj.mapSeq (· ++ vs.toArray)) } →
      codeAny (model prog w) A (.builtin "proto.collect" ⟨[.ref t], []⟩) R s := fun R r => by
    refine codeAny_builtin entry_proto_collect' ?_
    refine wpAny_bind (m := newList []) (wpAny_newList ?_)
    refine wpAny_pure ⟨Code.quiet_builtin _ (by decide +kernel), codeAny_builtin entry_list_iadd' ?_⟩
    show wpAny _ _ (Builtin.List.listExtendWith (.ref s.heap.objs.size) (.ref t) (.ref s.heap.objs.size)) _ _ _
    unfold Builtin.List.listExtendWith
    refine wpAny_bind (wpAny_typeOf (T := "tuple") ⟨o, e4, e2⟩ ?_)
    rw [if_pos (show (Builtin.List.listSameRef (.ref s.heap.objs.size) (.ref t) || Value.type "tuple" == Value.type "list" || Value.type "tuple" == Value.type "tuple") = true by
      rw [show (Value.type "tuple" == Value.type "tuple") = true from rfl, Bool.or_true])]
    exact wpAny_bind (listItems_at e4 e3 (wpAny_bind (listItems_at e5 rfl (by
      rw [if_neg (by simp)]
      exact wpAny_bind (listUpdate_at e5 rfl (wpAny_pure r) (Nat.zero_le _) e6)))))
  unfold collect
  refine wpAny_bind (wpAny_runValue (body _ ?_))
  show wpAny _ _ (load s.heap.objs.size >>= fun o => _) _ _ _
  refine wpAny_bind (wpAny_load (get?_update_seq e5 _) ?_)
  show wpAny _ _ (pure ((#[] : Array Value) ++ vs.toArray).toList) _ _ _
  rw [e7]
  exact wpAny_pure q
/-- sorted(t) of a tuple t -/
theorem sorted_tup {κ : PyProof.Rows.KeyKind} {t : Addr} {vs : List Value} {Q : Value → Shared → Prop} (ht : IsTup s.heap t vs.toArray) (hz : vs.length ≤ sizeLine)
    (S : W.SortsAt prog w A.in1.in1 { s with heap := W.sortingHeap (W.copyHeap s.heap vs) (s.heap.objs.size + 1) vs } κ vs)
    (h : Q (.ref (s.heap.objs.size + 1)) { s with heap := sortedAll s.heap vs (W.sortVals κ false vs vs).toArray }) : wpAny (model prog w) A (call (.builtin "sorted") [.ref t]) Q E s := by
  refine call_function_entry kind_sorted plain_sorted entry_sorted (args_sorted1 _) ?_
  unfold Builtin.«sorted»
  refine wpAny_bind (m := checkCount "sorted" 1 1 _) (wpAny_pure (wpAny_bind (tuple_taken ht hz (wpAny_bind (wpAny_newList ?_ hz)))))
  have e0 : ((s.heap.push (seqObj "list" #[] 0)).update s.heap.objs.size (Obj.mapSeq (· ++ vs.toArray))).objs.size = s.heap.objs.size + 1 := by
    rw [Heap.size_update, size_push']
  rw [show ∀ a : Nat, (a = s.heap.objs.size + 1) → (Value.ref a) = Value.ref (s.heap.objs.size + 1) from fun a e => by rw [e]] <;> try exact e0
  refine wpAny_bind (wpAny_holding (wpAny_call_entry_kw slot_list_sort ⟨_, W.copyHeap_at s.heap vs, rfl⟩ entry_list_sort ?_ (args_list_sort _)))
  refine wpAny_mono (W.list_sort_vals (P := fun f s' => f = .done (.ret .none) ∧ Q (.ref (s.heap.objs.size + 1)) s') (s := { s with heap := W.copyHeap s.heap vs }) (W.copyHeap_at s.heap vs) S hz ⟨rfl, h⟩) (fun f s' hf => ?_) fun _ _ e => e
  obtain ⟨rfl, hq⟩ := hf
  exact ⟨_, rfl, wpAny_pure ⟨_, rfl, hq⟩⟩
end

def rPF (P : Px) (q : Prim) : List V → Hp → VK → Prop := fun vs H Q => ∃ DF G σ ρ p ds, FrD P DF σ ρ G H ∧ Rbs P.K DF G H vs ds ∧ primD q ds p ∧ KF P DF σ ρ G H p Q
section
variable {P : Px} {X : Cx} {S : Scope} {N : List Str} {cs : List (Str × PyData)} {DF : DFt} {σ : L2.St} {ρ : Env} {G H : Hp} {p : PyData → Prop} {Q : VK}
theorem prim_lst (hX : Cxo P X S N cs) : CallR X (.type "list") (rPF P .lst) := by
  intro pins s σ0 H vs us Q I r h
  obtain ⟨DF, G, σ, ρ, p, ds, F, rs, h, k⟩ := h
  obtain ⟨d, rfl, h⟩ := one_inv (show one ds _ from h)
  obtain ⟨v, rfl, rb⟩ := rs.inv1
  obtain ⟨xs, hd, h⟩ := asS_inv h
  rcases hd with rfl | rfl
  · obtain ⟨a, ys, rfl, e1, q1⟩ := rb.list F.sub
    exact call_list_of pins s σ0 H _ us Q I r ⟨a, ys, rfl, .inl (SqL.of e1), fun l hl => k.new F h q1 hl⟩
  · obtain ⟨a, ys, rfl, e1, q1, f1⟩ := rb.tup F.sub
    rw [← hX.K] at e1
    exact call_list_of pins s σ0 H _ us Q I r ⟨a, ys, rfl, .inr e1, fun l hl => k.new F h q1 hl⟩
theorem zip_each {K : PySem.W.Frag} {G : Hp} : ∀ {ys : List V} {its : List Value} {xs : List PyData}, Rps K G ys xs → Vals ys its → W.EachIs (fun v (b : V × PyData) => RelV b.1 v ∧ Rp K G b.1 b.2) its (ys.zip xs)
  | _, _, _, .nil, .nil => .nil
  | _, _, _, .cons a b, .cons c d => .cons ⟨c, a⟩ (zip_each b d)
theorem each_back {K : PySem.W.Frag} {G : Hp} : ∀ {its : List Value} {bs : List (V × PyData)}, W.EachIs (fun v (b : V × PyData) => RelV b.1 v ∧ Rp K G b.1 b.2) its bs → Vals (bs.map (·.1)) its ∧ Rps K G (bs.map (·.1)) (bs.map (·.2))
  | _, _, .nil => ⟨.nil, .nil⟩
  | _, _, .cons h t => ⟨.cons h.1 (each_back t).1, .cons h.2 (each_back t).2⟩
theorem each_reads {K : PySem.W.Frag} {G : Hp} {h : Heap} : ∀ {ys : List V} {its : List Value} {xs : List PyData} {as : List Addr}, Rps K G ys xs → ReadsAll h its xs as → W.EachIs (fun v (b : V × PyData) => ∃ as, Reads h v b.2 as) its (ys.zip xs)
  | _, _, _, _, .nil, .nil => .nil
  | _, _, _, _, .cons a b, .cons c d => .cons ⟨_, c⟩ (each_reads b d)
theorem zip_snd {K : PySem.W.Frag} {G : Hp} {ys : List V} {xs : List PyData} (r : Rps K G ys xs) : (ys.zip xs).map (·.2) = xs := by
  rw [← List.unzip_snd, List.unzip_zip_right]
  rw [r.length]; exact Nat.le_refl _
theorem depth_mem {d : PyData} : ∀ {xs : List PyData}, d ∈ xs → d.depth ≤ PyData.depthAll xs
  | _ :: _, m => by
    rw [PyData.depthAll]
    rcases List.mem_cons.mp m with rfl | m
    · exact Nat.le_max_left _ _
    · exact Nat.le_trans (depth_mem m) (Nat.le_max_right _ _)
theorem prim_srt (hX : Cxo P X S N cs) : CallR X (.builtin "sorted") (rPF P .srt) := by
  intro pins s σ0 H vs us Q I r h
  obtain ⟨DF, G, σ, ρ, p, ds, F, rs, h, k⟩ := h
  obtain ⟨d, rfl, h⟩ := one_inv (show one ds _ from h)
  obtain ⟨v, rfl, rb⟩ := rs.inv1
  obtain ⟨u, rfl, ru⟩ := vals1 r
  obtain ⟨xs, hd, ⟨⟨ha, hdp, hpl⟩, hsr⟩, h⟩ := asS_inv h
  obtain ⟨a, ys, its, as, rfl, rfl, q, rv, hr, hz, hh⟩ := seq_read hX I F rb ru hd hpl
  have hu := hX.units
  have e1 := zip_each q rv
  have e2 := each_reads q hr
  have ez := zip_snd q
  have hal : W.AllAlike ((ys.zip xs).map (·.2)) := by
    rw [ez]
    exact fun d m d' m' => ha.1 d m d' m'
  have hk : W.Sortable ((ys.zip xs).map (·.2)) := by rw [ez]; exact hsr
  have hL : (ys.zip xs).length ≤ sizeLine := by rw [List.length_zip, ← q.length, Nat.min_self, rv.length]; exact hz
  have hb : ∀ b, b ∈ ys.zip xs → b.2.depth ≤ 60 := fun b m => Nat.le_trans (depth_mem (List.of_mem_zip m).2) hdp
  have em : ((ys.zip xs).mergeSort (W.dataLe false (·.2))).map (·.2) = srtD xs := by
    have z := W.sort_maps (r := W.dataLe false fun b : V × PyData => b.2) (s := W.dataLe false (id : PyData → PyData)) (fun b => b.2) (l := ys.zip xs) (fun _ _ _ _ => rfl)
    rw [z, ez]
    rfl
  have fin : ∀ out : List Value, out.length = (ys.zip xs).length → W.EachIs (fun v (b : V × PyData) => RelV b.1 v ∧ Rp P.K G b.1 b.2) out ((ys.zip xs).mergeSort (W.dataLe false (·.2))) →
      EP X pins σ0 Q (.ref (s.heap.objs.size + 1)) { s with heap := PyProof.Rows.sortedAll s.heap its (List.toArray out) } := fun out hlen he => by
    obtain ⟨b1, b2⟩ := each_back he
    rw [em] at b2
    obtain ⟨ep, hat⟩ := PyProof.Rows.sortedAll_at s.heap its out.toArray
    have hn : H (s.heap.objs.size + 1) = none := I.hok.fresh (Nat.le_succ _)
    refine ⟨.ref _, upd H (s.heap.objs.size + 1) (.lst _), I.laid (t' := s.toks) (fun _ _ => PyProof.Rows.sortedAll_old) (Nat.le_succ _) ⟨?_, out, ep, b1, hat⟩, rfl, k.new F h b2 hn⟩
    rw [b1.length, hlen]; exact hL
  rcases hh with ⟨_, _, hl⟩ | ⟨_, _, ht, _⟩
  · exact W.sorted_data (R := fun v (b : V × PyData) => RelV b.1 v ∧ Rp P.K G b.1 b.2) (enc := fun b => b.2) (bs := ys.zip xs) hl e1 e2 hal hk hL (fun b m => by have := hb b m; omega) fin
  · have er' : W.EachIs (fun v (b : V × PyData) => ∃ as, Reads (W.sortingHeap (W.copyHeap s.heap its) (s.heap.objs.size + 1) its) v b.2 as) its (ys.zip xs) := e2.mono fun _ _ ⟨as, r⟩ => ⟨as, PyProof.Rows.Reads.keeps (fun _ _ => W.sorting_copy_old) r⟩
    refine sorted_tup ht hz (W.SortsAt.data (s := { s with heap := W.sortingHeap (W.copyHeap s.heap its) (s.heap.objs.size + 1) its })
      (W.each_map (R := fun v d => ∃ as, Reads (W.sortingHeap (W.copyHeap s.heap its) (s.heap.objs.size + 1) its) v d as) (fun b : V × PyData => b.2) er') hal hk
      (fun d m => by
        obtain ⟨b, hb1, rfl⟩ := List.mem_map.mp m
        have := hb b hb1
        show X.A.units + 1 + 1 + _ < _
        omega)) ?_
    refine fin _ ?_ (W.sortVals_data (enc := fun b : V × PyData => b.2) false e1 er' hal)
    rw [W.sortVals_length false rfl]
    exact e1.length
end
end Pv
set_option Elab.async false
set_option linter.all false
set_option maxRecDepth 100000
set_option maxHeartbeats 4000000
/-! Core 7: subscripts, slices, isinstance, len(set(..)) over plain data. Own work. -/
set_option autoImplicit false
namespace Pv
open PySem PySem.Spec L2
section
variable {P : Px} {X : Cx} {S : Scope} {N : List Str} {cs : List (Str × PyData)}
theorem Rps.at {K : PySem.W.Frag} {G : Hp} {xs : List V} {ds : List PyData} (r : Rps K G xs ds) {i : Int} {d : PyData} (h : atI ds i = some d) : ∃ v, atI xs i = some v ∧ Rp K G v d := by
  unfold atI at h ⊢
  rw [r.length]
  cases e : ixN ds.length i with
  | none => rw [e] at h; cases h
  | some j => rw [e] at h; exact r.get h
theorem asO_inv {o : Option PyData} {k : PyData → Prop} (h : asO o k) : ∃ d, o = some d ∧ k d := by
  cases o with
  | none => exact h.elim
  | some d => exact ⟨d, rfl, h⟩
theorem ix_ok (hX : Cxo P X S N cs) : IxR X (rO P ixD) := by
  intro value slice pins s σ H x y v u Q I rx ry h hs
  obtain ⟨DF, G, σ', ρ, p, d1, d2, F, r1, r2, h, k⟩ := h
  cases d1 with
  | list xs =>
    obtain ⟨i, rfl, h3⟩ := asI_inv (show asI d2 _ from h)
    obtain ⟨d, ha, h⟩ := asO_inv h3
    obtain rfl := r2.int
    obtain ⟨a, ys, rfl, e1, q1⟩ := r1.list F.sub
    obtain ⟨w, hw, rw'⟩ := q1.at ha
    exact ix_list value slice pins s σ H _ _ v u Q I rx ry ⟨a, ys, i, w, rfl, rfl, SqL.of e1, hw, k.here F h rw'⟩ hs
  | tuple xs =>
    obtain ⟨i, rfl, h3⟩ := asI_inv (show asI d2 _ from h)
    obtain ⟨d, ha, h⟩ := asO_inv h3
    obtain rfl := r2.int
    obtain ⟨a, ys, rfl, e1, q1, f1⟩ := r1.tup F.sub
    rw [← hX.K] at e1
    obtain ⟨w, hw, rw'⟩ := q1.at ha
    exact ix_tup value slice pins s σ H _ _ v u Q I rx ry ⟨a, ys, i, w, rfl, rfl, e1, hw, k.here F h rw'⟩ hs
  | dict kvs =>
    obtain ⟨z, rfl, h3⟩ := asX_inv (show asX d2 _ from h)
    obtain ⟨d, ha, hp⟩ := asO_inv h3
    obtain rfl := r2.str
    obtain ⟨a, ks, xs, ds, rfl, rfl, e, l, nd, r⟩ := r1.dict F.sub
    rcases val_at (y := z) l r with ⟨h1, h2⟩ | ⟨w, d', h1, h2, h4⟩
    · rw [h2] at ha; cases ha
    · rw [h2] at ha
      cases ha
      have g := DGet.k (k := (.inr z : Key)) e
      rw [h1] at g
      cases rx
      exact PyProof.Rows.tail_any (dict_typeIs I g) PySem.F.slot_dict_getitem.lookup (d_getItem (units_le hX.units (by omega)) I g ry fun w' s' I' rw' => ⟨w, H, I', rw', k.here F hp h4⟩) hs
  | _ => exact (show False from h).elim
def rS (P : Px) : V → Option Int → Option Int → Hp → VK → Prop := fun x lo hi H Q => ∃ DF G σ ρ p d, FrD P DF σ ρ G H ∧ Rb P.K DF G H x d ∧ cutD d lo hi p ∧ KV P DF σ ρ G H p Q
theorem cut_all {α : Type} (xs : List α) (lo hi : Option Int) (h : HT.sIx xs.length 0 lo = 0 ∧ HT.sIx xs.length xs.length hi = xs.length) : cutG xs lo hi = xs := by
  unfold cutG
  rw [h.1, h.2]
  simp
theorem sl_ok (hX : Cxo P X S N cs) : SlR X (rS P) := by
  intro pins s σ H x v vl vu lo hi sl Q I rx hs pl pu h
  obtain ⟨DF, G, σ', ρ, p, d, F, r, h, k⟩ := h
  cases d with
  | list ds =>
    obtain ⟨a, ys, rfl, e1, q1⟩ := r.list F.sub
    exact sl_list pins s σ H _ v vl vu lo hi sl Q I rx hs pl pu ⟨a, ys, rfl, SqL.of e1, fun z hz => k.newL F h (q1.cut lo hi) hz⟩
  | tuple ds =>
    obtain ⟨a, ys, rfl, e1, q1, f1⟩ := r.tup F.sub
    rw [← hX.K] at e1
    have h : p (.tuple (cutG ds lo hi)) := h
    refine sl_tupN pins s σ H _ v vl vu lo hi sl Q I rx hs pl pu ⟨a, ys, rfl, e1, fun w => ?_, fun _ => k.newT F h (q1.cut lo hi)⟩
    rw [cut_all ds lo hi (by rw [← q1.length]; exact w)] at h
    exact k.here F h f1
  | _ => exact (show False from h).elim
/-- the type of isinstance's second value -/
def isaT : Nat → String
  | 0 => "tuple"
  | 1 => "int"
  | 2 => "bool"
  | 3 => "str"
  | 4 => "list"
  | _ => "dict"
def rIsa (P : Px) (t : Nat) : List V → Hp → VK → Prop := fun vs H Q => ∃ DF G σ ρ p d v, FrD P DF σ ρ G H ∧ Rb P.K DF G H v d ∧ vs = [v, .ty (isaT t)] ∧ p (.bool (isaD t d)) ∧ KV P DF σ ρ G H p Q
/-- the type of data -/
def tyN : PyData → String
  | .none => "NoneType"
  | .bool _ => "bool"
  | .int _ => "int"
  | .str _ => "str"
  | .list _ => "list"
  | .tuple _ => "tuple"
  | .dict _ => "dict"
theorem ty_of {DF : DFt} {G H : Hp} {v : V} {d : PyData} (r : Rb P.K DF G H v d) (s : Sub G H) : TyX P.K H v (.type (tyN d)) := by
  rcases r with r | ⟨p, rfl, _, z⟩
  · cases r with
    | non => exact .base .non
    | bl b => exact .base (.bl b)
    | int i => exact .base (.int i)
    | str x => exact .base (.str x)
    | lst h r => exact .base (.lst (s _ _ h))
    | tup h r =>
      rcases h with ⟨o, e, _⟩ | ⟨o, its, n, h1, h2, _⟩
      · exact .fTuple (s _ _ e)
      · exact .kTuple h1 h2
    | dct h l n r => exact .base (.dK (s _ _ h))
  · cases d with
    | list ds => obtain ⟨xs, z, _⟩ := z; exact .base (.lst z)
    | _ => exact z.elim
theorem isa_ok (hX : Cxo P X S N cs) (t : Nat) (ht : t ≤ 5) : CallR X (.builtin "isinstance") (rIsa P t) := by
  intro pins s σ0 H vs us Q I r h
  obtain ⟨DF, G, σ, ρ, p, d, v, F, rb, rfl, h, k⟩ := h
  have ty := ty_of rb F.sub
  rw [← hX.K] at ty
  refine call_isi pins s σ0 H _ us Q I r ⟨v, .ty (isaT t), .type (tyN d), .type (isaT t), isaD t d, rfl, .ty _, ty, kit_ty ?_, k.here F h (.bl _)⟩
  match t, ht with
  | 0, _ => cases d <;> kernel_rfl
  | 1, _ => cases d <;> kernel_rfl
  | 2, _ => cases d <;> kernel_rfl
  | 3, _ => cases d <;> kernel_rfl
  | 4, _ => cases d <;> kernel_rfl
  | 5, _ => cases d <;> kernel_rfl

/-! ### how many unlike ones -/
def encI (k : List Int) : PyData := .tuple (k.map .int)
theorem eqvAll_ints : ∀ a b : List Int, PyData.eqvAll (a.map .int) (b.map .int) = decide (a = b) := by
  intro a b
  have := PySem.W.eqvAll_map (α := Int) a b
  exact this
theorem eqv_encI (a b : List Int) : PyData.eqv (encI a) (encI b) = decide (a = b) := by
  unfold encI
  rw [PyData.eqv]
  exact eqvAll_ints a b
section
variable {κ : Type} [DecidableEq κ] (enc : κ → PyData) (he : ∀ a b, PyData.eqv (enc a) (enc b) = decide (a = b))
include he
theorem memD_enc (k : κ) (r : List κ) : memD (enc k) (r.map enc) = decide (k ∈ r) := by
  unfold memD
  induction r with
  | nil => simp
  | cons a r ih =>
    rw [List.map_cons, List.any_cons, ih, he]
    by_cases e : a = k
    · subst e; simp
    · have e' : ¬ k = a := fun z => e z.symm
      simp [e, e']
theorem unlike_enc : ∀ (l M : List κ), M.Nodup → (∀ x, x ∈ M ↔ x ∈ l) → M.length = unlike (l.map enc)
  | [], M, _, h => by
    cases M with
    | nil => rfl
    | cons a r => exact absurd ((h a).mp List.mem_cons_self) (by simp)
  | x :: r, M, nd, h => by
    rw [List.map_cons, unlike, memD_enc enc he]
    by_cases hx : x ∈ r
    · rw [if_pos (by simpa using hx)]
      refine unlike_enc r M nd fun y => ?_
      rw [h y, List.mem_cons]
      exact ⟨fun z => z.elim (fun e => e ▸ hx) id, .inr⟩
    · rw [if_neg (by simpa using hx)]
      have hm : x ∈ M := (h x).mpr List.mem_cons_self
      have := unlike_enc r (M.erase x) (nd.erase x) fun y => by
        rw [nd.mem_erase_iff, h y, List.mem_cons]
        exact ⟨fun ⟨a, b⟩ => b.elim (fun e => absurd e a) id, fun z => ⟨fun e => hx (e ▸ z), .inr z⟩⟩
      rw [← this, List.length_erase_of_mem hm]
      have : 0 < M.length := List.length_pos_of_mem hm
      omega
end
theorem unlike_len (l M : List (List Int)) (nd : M.Nodup) (h : ∀ x, x ∈ M ↔ x ∈ l) : M.length = unlike (l.map encI) := unlike_enc encI eqv_encI l M nd h
theorem eqv_str (a b : Str) : PyData.eqv (.str a) (.str b) = decide (a = b) := by
  rw [PyData.eqv]
  by_cases h : a = b
  · subst h; simp
  · simp [h]
theorem strs_of {K : PySem.W.Frag} {G : Hp} : ∀ {ys : List V} {xs : List PyData}, Rps K G ys xs → xs.all isStrT = true → ∃ ns : List Str, ys = ns.map V.str ∧ xs = ns.map PyData.str
  | _, _, .nil, _ => ⟨[], rfl, rfl⟩
  | _, _, .cons a b, h => by
    rw [List.all_cons, Bool.and_eq_true] at h
    obtain ⟨ns, rfl, rfl⟩ := strs_of b h.2
    cases a with
    | str i => exact ⟨i :: ns, rfl, rfl⟩
    | _ => cases h.1
theorem tups_of {K : PySem.W.Frag} {G : Hp} : ∀ {ys : List V} {xs : List PyData}, Rps K G ys xs → xs.all intsT = true → ∃ ks : List (Addr × List Int), ys = ks.map (fun p => V.ref p.1) ∧ xs = ks.map (fun p => encI p.2) ∧ ∀ p ∈ ks, SqT K G p.1 (p.2.map V.int)
  | _, _, .nil, _ => ⟨[], rfl, rfl, fun _ h => (nomatch h)⟩
  | _, _, .cons a b, h => by
    rw [List.all_cons, Bool.and_eq_true] at h
    obtain ⟨ks, rfl, rfl, h3⟩ := tups_of b h.2
    cases a with
    | tup e r =>
      obtain ⟨ns, rfl, rfl⟩ := ints_of r h.1
      refine ⟨(_, ns) :: ks, rfl, rfl, fun p hp => ?_⟩
      rcases List.mem_cons.mp hp with rfl | hp
      · exact e.sq
      · exact h3 p hp
    | _ => cases h.1
/-- len(set(xs)), xs a list of tuples of ints -/
def tLs (P : Px) (ta : TE) : TE := fun σ0 H0 Q => ta σ0 H0 fun v H => ∃ DF G σ ρ p xs, FrD P DF σ ρ G H ∧ Rb P.K DF G H v (.list xs) ∧ (xs.all intsT = true ∨ xs.all isStrT = true) ∧ xs.length ≤ 60 ∧ p (.int (unlike xs)) ∧ KV P DF σ ρ G H p Q
theorem pe_lenset (hX : Cxo P X S N cs) {a : Expr} {ta : TE} {p p2 q pos : Pos} (hg : Gl X "len") (hg2 : Gl X "set") (ha : PE X a ta)
    (na : starEach [a] X.env = (false, eval a X.env) :: starEach [] X.env) : PE X (.Call (.Name "len" p) [.Call (.Name "set" p2) [a] [] q] [] pos) (tLs P ta) := by
  refine ⟨fun pins s σ0 H Q I h => ?_⟩
  refine PyProof.Rows.Call_ (ld_blt I hg (hX.free _ (by decide)) PySem.boot_len ?_)
  refine PyProof.Rows.callWith_builtin1 (PyProof.Rows.args_cons ?_ rfl) rfl rfl
  refine PyProof.Rows.Call_ (ld_blt I hg2 (hX.free _ (by decide)) PyProof.Rows.boot_set ?_)
  refine PyProof.Rows.callWith_type1 (PyProof.Rows.args_cons (thn (ha.run pins s σ0 H _ I h) fun v s1 ⟨x, H1, I1, r1, DF, G, σ, ρ, p, xs, F, rb, hall, hlen, hp, k⟩ => PyProof.Rows.args_nil ?_) na) na rfl
  obtain ⟨l, ys, rfl, e1, q1⟩ := rb.list F.sub
  rcases hall with hall | hall
  case inr =>
    obtain ⟨zs, rfl, rfl⟩ := strs_of q1 hall
    cases r1
    obtain ⟨its, rv, pl, hz⟩ := I1.list (SqL.of e1)
    rw [List.length_map] at hlen
    have li : its.length = zs.length := by rw [← rv.length, List.length_map]
    refine call_set_texts (prog := X.prog) (w := X.w) hX.hd pl.isList (by simpa using strsAre_of rv) (by simpa using li.symm) (by simp; unfold scanBound; omega) fun h' tk hS kp => ?_
    refine PyProof.Rows.args_nil ?_
    have I2 : Inv X pins σ0 H1 { s1 with heap := h', toks := tk } := I1.kept fun b o e => kp b o (Heap.lt_size e) e
    obtain ⟨o, es, ep, t, ho, hex, hd, _, _, _, hf, hn⟩ := hS
    have hL : (dS zs).length = unlike (zs.map PyData.str) := unlike_enc PyData.str eqv_str zs _ (nodup_dS zs) (mem_dS zs)
    have := len_dS zs
    exact call_len_set ho hex hd hf (by rw [hn]; omega) ⟨.int (unlike (zs.map PyData.str)), H1, I2.tok _, ⟨tk + 1, by rw [hn, hL]⟩, k.here F hp (.int _)⟩
  obtain ⟨ks, rfl, rfl, h3⟩ := tups_of q1 hall
  cases r1
  obtain ⟨its, rv, pl, hz⟩ := I1.list (SqL.of e1)
  rw [List.length_map] at hlen
  have hu := hX.units
  have hk : ∀ p ∈ ks, SqT X.K H1 p.1 (p.2.map V.int) := fun p hp => by rw [hX.K]; exact F.sub.sqT (h3 p hp)
  refine call_set_tups (P := X.prog) (w := X.w) ks hX.hd pl.isList (by simpa using refs_of_vals rv) (fun p hp => I1.isT (hk p hp)) (by omega) (by omega) fun h' tk L es ep t R g kp => ?_
  refine PyProof.Rows.args_nil ?_
  have I2 : Inv X pins σ0 H1 { s1 with heap := h', toks := tk } := I1.kept kp
  obtain ⟨o, ho, hex, hd⟩ := R.ob
  have hn : es.size = L.length := SetTR.size (s := { s1 with heap := h', toks := tk }) R
  have hL : L.length = unlike ((ks.map (·.2)).map encI) := by
    have : (L.map (·.2)).length = unlike ((ks.map (·.2)).map encI) := by
      refine unlike_len _ _ R.nd fun x => ⟨fun hx => ?_, fun hx => ?_⟩
      · obtain ⟨p, hp, rfl⟩ := List.mem_map.mp hx
        exact List.mem_map.mpr ⟨p, List.mem_of_mem_take (g.sub p hp), rfl⟩
      · obtain ⟨p, hp, rfl⟩ := List.mem_map.mp hx
        exact g.all p (by rw [List.take_length]; exact hp)
    rwa [List.length_map] at this
  rw [List.map_map] at hL
  have few := R.few
  refine call_len_set ho hex hd (SetTR.fits (s := { s1 with heap := h', toks := tk }) R) (by rw [hn]; omega) ⟨.int (unlike (ks.map fun p => encI p.2)), H1, I2.tok _, ⟨tk + 1, ?_⟩, k.here F hp (.int _)⟩
  rw [hn, hL]
  rfl
end
end Pv
set_option Elab.async false
set_option linter.all false
set_option maxRecDepth 100000
set_option maxHeartbeats 4000000
/-! Core 8: contexts, names, targets, iterables, comprehensions over plain data. Own work. -/
set_option autoImplicit false
namespace Pv
open PySem PySem.Spec L2

/-- what a function promises -/
def spF (P : Px) (C : Orc) (f : Nat) : Sp := fun vs H Q E => ∃ DF G sl p e, Sub G H ∧ DrOk G H DF ∧ LamX.Tabs P.T H ∧ RAs P.K DF G vs sl ∧ C f sl p e ∧
  (∀ v H' G' d sl', p d sl' → Gr P.T DF G H G' H' → Sub G' H' → DrOk G' H' DF → Rp P.K G' v d → Q v H') ∧
  (∀ x H' G' sl' cls dx, e x sl' → Gr P.T DF G H G' H' → Sub G' H' → DrOk G' H' DF → ExAt P G' x cls dx H' → E cls dx H')
structure Cxf (P : Px) (C : Orc) (fns : List Str) (cs : List (Str × PyData)) (N : List Str) (X : Cx) (S : Scope) (W : WX) : Prop where
  o : Cxo P X S N cs
  cal : ∀ (f : Nat) (x : Str), fns[f]? = some x → ∃ (k : Nat) (fa : Addr) (fd : FuncData) (ps : List Str), FnOk X.prog X.w X.K X.mg X.base (L2.CX X.prog X.w) k fa fd ps (spF P C f) ∧ Room k X.A ∧ X.mg x = some (.ref fa) ∧ PySem.W.keepIn X.K (.ref fa) = true ∧ Binds X.K fd ps []
  tk : Takes X W
abbrev WF : WX := fun _ _ _ _ => False
section
variable {P : Px} {C : Orc} {fns : List Str} {cs : List (Str × PyData)} {N : List Str} {X : Cx} {S : Scope} {W : WX}
theorem Cxf.blk (h : Cxf P C fns cs N X S W) (s : Shared) (H : Hp) (sc : Scope) (D : Addr) (cl : List (Str × Addr)) (fp : List Addr) : Cxf P C fns cs N (X.blk s H sc (compEnvC sc cl D X.env) fp) (relS sc S) WF where
  o := ⟨h.o.K, by rw [← h.o.sc]; rfl, h.o.hN, h.o.nd, h.o.calm, h.o.hd, h.o.free, h.o.gl, h.o.units, h.o.depth⟩
  cal := h.cal
  tk := fun u s' ⟨a, B, sI, pins, σ, H, cls, d, e, I, nb, up, sky, na, os, ag, w⟩ => w.elim
theorem Cxf.glo (h : Cxf P C fns cs N X S W) {x : Str} (g : glB S x = true) : Gl X x ∧ (x == ("__debug__" : Str)) = false := by
  obtain ⟨h1, h2⟩ := glB_inv g
  refine ⟨?_, h2⟩
  show X.env.scope.names.lookup x = _
  rw [h.o.sc]; exact h1

/-! ### the form of expressions -/
def fineX : Expr → Bool
  | .Starred _ _ => false
  | .Set _ _ _ => false
  | .Slice _ _ _ _ => false
  | _ => true
theorem boB_fine {c : CE} {e : Expr} (h : boB N S c e = true) : fineX e = true := by
  cases c with
  | bo i => obtain ⟨x, p, rfl, _⟩ := mNm_inv (show mNm N S i e = true from h); rfl
  | _ => cases h
theorem stB_fine {c : CE} {e : Expr} (h : stB N S c e = true) : fineX e = true := by
  cases c with
  | stn i => obtain ⟨x, p, rfl, _⟩ := mNm_inv (show mNm N S i e = true from h); rfl
  | _ => cases h
theorem mtE_fine {c : CE} {e : Expr} (h : mtE fns cs N S c e = true) : fineX e = true := by
  cases c with
  | cst d => rw [mtE] at h; obtain ⟨c, k, p, rfl, _⟩ := mCst_inv h; rfl
  | nm i => rw [mtE] at h; obtain ⟨x, p, rfl, _⟩ := mNm_inv h; rfl
  | bo i => rw [mtE] at h; cases h
  | stn i => rw [mtE] at h; cases h
  | gl k x d => rw [mtE] at h; obtain ⟨p, rfl, _⟩ := mGl_inv h; rfl
  | neg a => rw [mtE] at h; obtain ⟨x, p, rfl, _⟩ := mNeg_inv h; rfl
  | bin o a b => rw [mtE] at h; obtain ⟨x, y, p, rfl, _⟩ := mBin_inv h; rfl
  | cmp o a b => rw [mtE] at h; obtain ⟨x, y, p, rfl, _⟩ := mCmp_inv h; rfl
  | chn o o' a b c => rw [mtE] at h; obtain ⟨x, y, z, p, rfl, _⟩ := mChn_inv h; rfl
  | and a b => rw [mtE] at h; obtain ⟨x, xs, p, rfl, _⟩ := mAnd_inv h; rfl
  | or a b => rw [mtE] at h; obtain ⟨x, xs, p, rfl, _⟩ := mOr_inv h; rfl
  | not a => rw [mtE] at h; obtain ⟨x, p, rfl, _⟩ := mNot_inv h; rfl
  | ife t a b => rw [mtE] at h; obtain ⟨x, y, z, p, rfl, _⟩ := mIfe_inv h; rfl
  | tup es => rw [mtE] at h; obtain ⟨xs, c, p, rfl, _⟩ := mTup_inv h; rfl
  | lst es => rw [mtE] at h; obtain ⟨xs, p, rfl, _⟩ := mLst_inv h; rfl
  | idx a i => rw [mtE] at h; obtain ⟨x, y, p, rfl, _⟩ := mIdx_inv h; rfl
  | sl a l u => rw [mtE] at h; obtain ⟨x, a, b, p, q, rfl, _⟩ := mSl_inv h; rfl
  | slp a k => rw [mtE] at h; obtain ⟨x, u, p, q, rfl, _⟩ := mSlp_inv h; rfl
  | cab i f es => rw [mtE] at h; obtain ⟨x, p, y, ys, q, rfl, _⟩ := mCall_inv h; rfl
  | call f es => rw [mtE] at h; obtain ⟨x, p, y, ys, q, rfl, _⟩ := mCall_inv h; rfl
  | prim f es => rw [mtE] at h; obtain ⟨x, p, y, ys, q, rfl, _⟩ := mCall_inv h; rfl
  | isa t a => rw [mtE] at h; obtain ⟨p, y, q, r, rfl, _⟩ := mIsa_inv h; rfl
  | lenset a => rw [mtE] at h; obtain ⟨p, q, z, r, t, rfl, _⟩ := mWrap_inv h; rfl
  | rng t a => rw [mtE] at h; obtain ⟨p, q, z, r, t, rfl, _⟩ := mWrap_inv h; rfl
  | comp elt tg it t => rw [mtE] at h; obtain ⟨x, tg', it', ifs, sc, p, rfl, _⟩ := mComp_inv h; rfl
  | comp2 elt tg it t tg1 it1 t1 => rw [mtE] at h; obtain ⟨x, tg', it', ifs, tg1', it1', ifs1, sc, p, rfl, _⟩ := mComp2_inv h; rfl
theorem star_fine {e : Expr} (h : fineX e = true) (es : List Expr) (env : PySem.Env) : starEach (e :: es) env = (false, eval e env) :: starEach es env := by
  cases e <;> first | rfl | cases h
theorem noplain {pos : Pos} {env : PySem.Env} : ∀ {es : List Expr}, (∀ e ∈ es, fineX e = true) → (backTo pos (starEach es env)).any (·.1) = false
  | [], _ => rfl
  | e :: es, h => by
    rw [star_fine (h e List.mem_cons_self)]
    show (false || (backTo pos (starEach es env)).any (·.1)) = false
    rw [noplain fun x m => h x (List.mem_cons_of_mem _ m)]
    rfl
theorem nomarks {o : CmpOp} {e : Expr} (h : fineX e = true) : behindInMarks o e = false := by
  cases e <;> first | rfl | cases h
theorem plainIx {e : Expr} (h : fineX e = true) : PlainIx e := fun o i => by
  cases e <;> first | rfl | cases h
theorem nofold {e : Expr} (h : fineX e = true) (env : PySem.Env) (x : Value) : foldedSetIterable e env x = pure x := by
  cases e <;> first | rfl | cases h

/-! ### the frame's slots -/
variable {DF : DFt} {σ : L2.St} {ρ : Env} {G H G' H' : Hp}
theorem get_set {α : Type} (l : List α) (i j : Nat) (a : α) : (l.set i a)[j]? = if j = i ∧ i < l.length then some a else l[j]? := by
  by_cases h : j = i
  · subst h
    by_cases hl : j < l.length
    · rw [List.getElem?_set_self hl, if_pos ⟨rfl, hl⟩]
    · rw [if_neg (fun z => hl z.2), List.getElem?_eq_none (by simpa using hl), List.getElem?_eq_none (by simpa using hl)]
  · rw [List.getElem?_set_ne (Ne.symm h), if_neg (fun z => h z.1)]
/-- a slot is set to what is right and no list of ours -/
theorem FrD.setN (F : FrD P DF σ ρ G H) {i : Nat} {o : Option V} {s : Slot} (ok : SlotOk P DF G H (some o) s) (no : ∀ d, s ≠ .own d) : FrD P DF (σ.set i o) (ρ.set i s) G H where
  len := by rw [List.length_set, List.length_set]; exact F.len
  sub := F.sub
  sub0 := F.sub0
  new := F.new
  keep0 := F.keep0
  df := F.df
  slots := fun j t e => by
    rw [get_set] at e ⊢
    rw [← F.len]
    split at e
    · rename_i h
      rw [if_pos h]
      cases e
      exact ok
    · rename_i h
      rw [if_neg h]
      exact F.slots j t e
  own1 := fun j k d d' p h1 h2 h3 h4 => by
    rw [get_set] at h1 h2 h3 h4
    rw [← F.len] at h3 h4
    split at h1
    · cases h1; exact absurd rfl (no d)
    · rename_i n1
      split at h2
      · cases h2; exact absurd rfl (no d')
      · rename_i n2
        rw [if_neg n1] at h3
        rw [if_neg n2] at h4
        exact F.own1 j k d d' p h1 h2 h3 h4
  dr := F.dr
  live0 := F.live0
  tab := F.tab
theorem FrD.setv (F : FrD P DF σ ρ G H) {i : Nat} {v : V} {d : PyData} (r : Rp P.K G v d) : FrD P DF (σ.set i (some v)) (ρ.set i (.v d)) G H := F.setN ⟨v, rfl, r⟩ fun _ z => (nomatch z)
theorem FrD.wipe (F : FrD P DF σ ρ G H) : ∀ vs : List Nat, FrD P DF (L2.wipe σ vs) (wipeE ρ vs) G H
  | [] => F
  | v :: vs => (FrD.wipe F vs).setN trivial fun _ z => (nomatch z)
/-- the same but at vs -/
def Same (vs : List Nat) (σ σ' : L2.St) : Prop := σ'.length = σ.length ∧ ∀ i, i ∉ vs → σ'[i]? = σ[i]?
theorem Same.refl (vs : List Nat) (σ : L2.St) : Same vs σ σ := ⟨rfl, fun _ _ => rfl⟩
theorem Same.trans {vs : List Nat} {σ σ1 σ2 : L2.St} (a : Same vs σ σ1) (b : Same vs σ1 σ2) : Same vs σ σ2 := ⟨b.1.trans a.1, fun i h => (b.2 i h).trans (a.2 i h)⟩
theorem Same.more {vs ws : List Nat} {σ σ1 : L2.St} (a : Same vs σ σ1) (h : ∀ i ∈ vs, i ∈ ws) : Same ws σ σ1 := ⟨a.1, fun i hi => a.2 i fun m => hi (h i m)⟩
theorem Same.set {vs : List Nat} {i : Nat} (hi : i ∈ vs) (σ : L2.St) (o : Option V) : Same vs σ (σ.set i o) := ⟨by rw [List.length_set], fun j hj => by
  rw [List.getElem?_set_ne]; rintro rfl; exact hj hi⟩
theorem Same.wiped (σ : L2.St) : ∀ vs : List Nat, Same vs σ (L2.wipe σ vs)
  | vs => ⟨wipe_length σ vs, fun i h => wipe_out h⟩
theorem wipe_in {σ : L2.St} {i : Nat} : ∀ {vs : List Nat}, i ∈ vs → (L2.wipe σ vs)[i]? = if i < σ.length then some none else none
  | v :: vs, m => by
    unfold L2.wipe
    rw [get_set]
    by_cases h : i = v ∧ v < (L2.wipe σ vs).length
    · rw [if_pos h]
      rw [wipe_length] at h
      rw [if_pos (by rw [h.1]; exact h.2)]
    · rw [if_neg h]
      by_cases hm : i ∈ vs
      · exact wipe_in hm
      · have e : i = v := by
          rcases List.mem_cons.mp m with e | e
          · exact e
          · exact absurd e hm
        subst e
        rw [wipe_out hm]
        rw [wipe_length] at h
        have : ¬ i < σ.length := fun z => h ⟨rfl, z⟩
        rw [if_neg this, List.getElem?_eq_none (by omega)]
theorem Same.wipe_eq {vs : List Nat} {σ σ' : L2.St} (h : Same vs σ σ') : L2.wipe σ' vs = L2.wipe σ vs := by
  refine List.ext_getElem? fun i => ?_
  by_cases m : i ∈ vs
  · rw [wipe_in m, wipe_in m, h.1]
  · rw [wipe_out m, wipe_out m, h.2 i m]

/-- the lists that names alone hold are from before -/
def OwnLe (σ : L2.St) (ρ : Env) (σ' : L2.St) (ρ' : Env) : Prop := ∀ (i : Nat) d, ρ'[i]? = some (.own d) → ρ[i]? = some (.own d) ∧ σ'[i]? = σ[i]?
theorem OwnLe.refl (σ : L2.St) (ρ : Env) : OwnLe σ ρ σ ρ := fun _ _ e => ⟨e, rfl⟩
theorem OwnLe.trans {σ σ1 σ2 : L2.St} {ρ ρ1 ρ2 : Env} (a : OwnLe σ ρ σ1 ρ1) (b : OwnLe σ1 ρ1 σ2 ρ2) : OwnLe σ ρ σ2 ρ2 := fun i d e => by
  obtain ⟨e1, e2⟩ := b i d e
  obtain ⟨e3, e4⟩ := a i d e1
  exact ⟨e3, e2.trans e4⟩
theorem OwnLe.setN {σ : L2.St} {ρ : Env} (hl : ρ.length = σ.length) {i : Nat} {o : Option V} {s : Slot} (no : ∀ d, s ≠ .own d) : OwnLe σ ρ (σ.set i o) (ρ.set i s) := fun j d e => by
  rw [get_set] at e ⊢
  rw [← hl]
  split at e
  · cases e; exact absurd rfl (no d)
  · rename_i h
    rw [if_neg h]
    exact ⟨e, rfl⟩
theorem OwnLe.setv {σ : L2.St} {ρ : Env} (hl : ρ.length = σ.length) {i : Nat} {o : Option V} {d : PyData} : OwnLe σ ρ (σ.set i o) (ρ.set i (.v d)) := OwnLe.setN hl fun _ z => (nomatch z)
theorem wipeE_length (ρ : Env) : ∀ vs : List Nat, (wipeE ρ vs).length = ρ.length
  | [] => rfl
  | v :: vs => by rw [wipeE, List.length_set, wipeE_length ρ vs]
theorem OwnLe.wipe {σ : L2.St} {ρ : Env} (hl : ρ.length = σ.length) : ∀ vs : List Nat, OwnLe σ ρ (L2.wipe σ vs) (wipeE ρ vs)
  | [] => OwnLe.refl _ _
  | v :: vs => (OwnLe.wipe hl vs).trans (OwnLe.setN (by rw [wipe_length, wipeE_length]; exact hl) fun _ z => (nomatch z))

/-! ### targets -/
def gNms : List Nat → TGs
  | [] => gNil
  | i :: is => gCons (gName i) (gNms is)
def gT (K : PySem.W.Frag) : Tg → TG
  | .nm i => gName i
  | .tp is => gTup K is.length (gNms is)
theorem gNms_ok {k : Env → Prop} {Q : L2.St → Hp → Prop} : ∀ (is : List Nat) {vs : List V} {ds : List PyData} {σ : L2.St} {ρ : Env}, FrD P DF σ ρ G H → Rps P.K G vs ds → ds.length = is.length → k (setAll is ds ρ) →
    (∀ σ' ρ', k ρ' → FrD P DF σ' ρ' G H → Same is σ σ' → OwnLe σ ρ σ' ρ' → Q σ' H) → gNms is vs σ H Q
  | [], vs, ds, σ, ρ, F, r, e, h, q => by
    cases ds with
    | nil => cases r; exact ⟨rfl, q _ _ h F (Same.refl _ _) (OwnLe.refl _ _)⟩
    | cons _ _ => cases e
  | i :: is, vs, ds, σ, ρ, F, r, e, h, q => by
    cases ds with
    | nil => cases e
    | cons d ds =>
      cases r with
      | cons r1 r2 =>
        refine ⟨_, _, rfl, gNms_ok is (F.setv r1) r2 (by simpa using e) h fun σ' ρ' hk F' sm ol => q σ' ρ' hk F' ?_ ((OwnLe.setv F.len).trans ol)⟩
        exact (Same.set List.mem_cons_self _ _).trans (sm.more fun j m => List.mem_cons_of_mem _ m)
theorem gT_ok (tg : Tg) {v : V} {d : PyData} {k : Env → Prop} {Q : L2.St → Hp → Prop} (F : FrD P DF σ ρ G H) (r : Rp P.K G v d) (h : setTg tg d ρ k) (q : ∀ σ' ρ', k ρ' → FrD P DF σ' ρ' G H → Same (tgs tg) σ σ' → OwnLe σ ρ σ' ρ' → Q σ' H) : gT P.K tg v σ H Q := by
  cases tg with
  | nm i => exact q _ _ h (F.setv r) (Same.set (by simp) _ _) (OwnLe.setv F.len)
  | tp is =>
    obtain ⟨ds, rfl, h1, h2⟩ := asT_inv (show asT d _ from h)
    cases r with
    | tup e rs => exact ⟨_, _, rfl, F.sub.sqT e.sq, rs.length.trans h1, gNms_ok is F rs h1 h2 q⟩
theorem pg_ok (hX : Cxf P C fns cs N X S W) {raw : Scope} (hf : ∀ x, celB raw x = true → X.fn x = true) {tg : Tg} {e : Expr} (h : tgB N S raw tg e = true) : PG X e (gT P.K tg) := by
  have name : ∀ {i : Nat} {x : Str} {p : Pos}, stoB N S raw i x = true → PG X (.Name x p) (gName i) := fun {i x p} h => by
    obtain ⟨h1, h2⟩ := stoB_inv h
    rw [← hX.o.hN] at h1
    rw [← hX.o.sc] at h2
    rcases h2 with h2 | ⟨h2, h3⟩
    · exact pg_name hX.o.nd h1 (.inl h2) (.inr h2)
    · exact pg_name hX.o.nd h1 (.inr h3) (.inl (hf x h2))
  unfold tgB at h
  split at h
  · exact name h
  · rename_i is es _ _
    have key : ∀ (is : List Nat) (es : List Expr), tgB.tgL N S raw is es = true → PGs X es (gNms is) ∧ (assignEach es X.env).length = is.length ∧ (assignEach es X.env).findIdx? (·.1) = none := by
      intro is
      induction is with
      | nil =>
        intro es h
        cases es with
        | nil => exact ⟨pgs_nil, rfl, rfl⟩
        | cons _ _ => cases h
      | cons i is ih =>
        intro es h
        cases es with
        | nil => cases h
        | cons e es =>
          unfold tgB.tgL at h
          split at h
          · rename_i h0 h1; cases h0
          · rename_i i' is' x p es' h0 h1
            cases h0; cases h1
            obtain ⟨h2, h3⟩ := both h
            obtain ⟨k1, k2, k3⟩ := ih _ h3
            refine ⟨pgs_cons (name h2) k1, ?_, ?_⟩
            · show (assignEach _ X.env).length + 1 = _
              rw [k2]; rfl
            · show List.findIdx? (·.1) ((false, _) :: assignEach _ X.env) = none
              rw [List.findIdx?_cons, k3]; rfl
          · cases h
    obtain ⟨k1, k2, k3⟩ := key is es h
    show PG X _ (gTup P.K is.length (gNms is))
    rw [← hX.o.K]
    exact pg_tup hX.o.calm k1 k2 k3
  · cases h
end
end Pv
set_option Elab.async false
set_option linter.all false
set_option maxRecDepth 100000
set_option maxHeartbeats 4000000
/-! Core 9: iterables, comprehensions over plain data. Own work. -/
set_option autoImplicit false
namespace Pv
open PySem PySem.Spec L2

/-- what an iterator walks; b: a list that a name alone holds may be walked -/
inductive ItD (b : Bool) (K : PySem.W.Frag) (DF : DFt) (G H : Hp) : It → List PyData → Prop
  | l {a : Addr} {xs : List V} {as : List PyData} : (G a = some (.lst xs) ∨ (b = true ∧ NotIn a DF ∧ H a = some (.lst xs))) → Rps K G xs as → as.length ≤ sizeLine → ItD b K DF G H (Itl K a) as
  | t {a : Addr} {xs : List V} {as : List PyData} : SqT K G a xs → Rps K G xs as → as.length ≤ sizeLine → ItD b K DF G H (Itt K a) as
  | r {lo : Int} {n : Nat} : n ≤ 2 * LIM → ItD b K DF G H (Itr lo n) (range lo n)
  | s {z : Str} : z.length ≤ LIM → ItD b K DF G H (Its z) (signsD z)
theorem signs_len (z : Str) : (signsD z).length = z.cps.size := by unfold signsD; rw [List.length_map, Array.length_toList]
theorem signs_get {z : Str} {i c : Nat} (h : z.cps[i]? = some c) : (signsD z)[i]? = some (.str ⟨#[c]⟩) := by
  unfold signsD
  rw [List.getElem?_map, Array.getElem?_toList, h]
  rfl
theorem range_length (lo : Int) (n : Nat) : (range lo n).length = n := by unfold range; rw [List.length_map, List.length_range]
theorem range_get (lo : Int) {n i : Nat} (h : i < n) : (range lo n)[i]? = some (.int (lo + (i : Int))) := by
  unfold range
  rw [List.getElem?_map, List.getElem?_range h]
  rfl
section
variable {b : Bool} {K : PySem.W.Frag} {DF : DFt} {G H G' H' : Hp} {J : It} {as : List PyData}
theorem ItD.grow {T : List (Addr × Str)} (h : ItD b K DF G H J as) (g : Gr T DF G H G' H') : ItD b K DF G' H' J as := by
  cases h with
  | l e r z =>
    refine .l ?_ (r.mono g.sub) z
    rcases e with e | ⟨h1, h2, h3⟩
    · exact .inl (g.sub _ _ e)
    · exact .inr ⟨h1, h2, g.keep _ _ h3 trivial h2⟩
  | t e r z => exact .t (g.sub.sqT e) (r.mono g.sub) z
  | r z => exact .r z
  | s z => exact .s z
theorem ItD.sub {DF' : DFt} (h : ItD false K DF G H J as) (s : Sub G G') : ItD false K DF' G' H' J as := by
  cases h with
  | l e r z =>
    refine .l ?_ (r.mono s) z
    rcases e with e | ⟨h1, h2, h3⟩
    · exact .inl (s _ _ e)
    · cases h1
  | t e r z => exact .t (s.sqT e) (r.mono s) z
  | r z => exact .r z
  | s z => exact .s z
theorem ItD.len (h : ItD b K DF G H J as) : as.length ≤ sizeLine := by
  cases h with
  | l _ _ z => exact z
  | t _ _ z => exact z
  | r z => rw [range_length]; exact Nat.le_trans z (by rw [sizeLine_eq]; decide)
  | s z => rw [signs_len]; exact Nat.le_trans z line_lim
theorem ItD.stop (h : ItD b K DF G H J as) (s : Sub G H) : J.stop as.length H := by
  cases h with
  | l e r z =>
    refine ⟨_, .inl (.inl ?_), Nat.le_of_eq r.length⟩
    rcases e with e | ⟨h1, h2, h3⟩
    · exact s _ _ e
    · exact h3
  | t e r z => exact ⟨_, s.sqT e, Nat.le_of_eq r.length⟩
  | r z => exact Nat.le_of_eq (range_length _ _).symm
  | s z => exact Nat.le_of_eq (signs_len _).symm
theorem ItD.go (h : ItD b K DF G H J as) (s : Sub G H) {i : Nat} (hi : i < as.length) : J.go i H := by
  cases h with
  | @l a xs as e r z =>
    obtain ⟨v, hv, _⟩ := r.get (List.getElem?_eq_getElem hi)
    refine ⟨xs, v, .inl (.inl ?_), hv⟩
    rcases e with e | ⟨h1, h2, h3⟩
    · exact s _ _ e
    · exact h3
  | @t a xs as e r z =>
    obtain ⟨v, hv, _⟩ := r.get (List.getElem?_eq_getElem hi)
    exact ⟨xs, v, s.sqT e, hv⟩
  | @r lo n z => exact (range_length lo n) ▸ hi
  | @s x z => rw [signs_len] at hi; exact hi
theorem ItD.yld (h : ItD b K DF G H J as) (s : Sub G H) {i : Nat} (hi : i < as.length) {x : V} {H1 : Hp} (y : J.yld i H x H1) : H1 = H ∧ ∃ d, as[i]? = some d ∧ Rp K G x d := by
  cases h with
  | @l a xs as e r z =>
    obtain ⟨rfl, y⟩ := y
    refine ⟨rfl, r.getV (y xs (.inl (.inl ?_)))⟩
    rcases e with e | ⟨h1, h2, h3⟩
    · exact s _ _ e
    · exact h3
  | @t a xs as e r z =>
    obtain ⟨rfl, y⟩ := y
    exact ⟨rfl, r.getV (y xs (s.sqT e))⟩
  | @r lo n z =>
    obtain ⟨rfl, rfl⟩ := y
    rw [range_length] at hi
    exact ⟨rfl, _, range_get lo hi, .int _⟩
  | @s x z =>
    obtain ⟨rfl, c, hc, rfl⟩ := y
    exact ⟨rfl, _, signs_get hc, .str _⟩
end
section
variable {P : Px} {C : Orc} {fns : List Str} {cs : List (Str × PyData)} {N : List Str} {X : Cx} {S : Scope} {W : WX}
/-- an iterable's reading -/
def tI (P : Px) (C : Orc) (W : WX) (b : Bool) (c : CI) : TI := fun σ H R => ∃ DF G ρ p e, FrD P DF σ ρ G H ∧ evI C c ρ p e ∧ (∀ J H' G' as, p as → FrD P DF σ ρ G' H' → Gr P.T DF G H G' H' → ItD b P.K DF G' H' J as → R J H') ∧ KX P W DF σ ρ G H e
/-- a value's reading; b: or a list that a name alone holds -/
def tQ (P : Px) (C : Orc) (W : WX) (b : Bool) (c : CE) : TE := fun σ H Q => ∃ DF G ρ p e, FrD P DF σ ρ G H ∧ evE C c ρ p e ∧ (∀ v H' G' d, p d → FrD P DF σ ρ G' H' → Gr P.T DF G H G' H' → (Rp P.K G' v d ∨ (b = true ∧ Rb P.K DF G' H' v d)) → Q v H') ∧ KX P W DF σ ρ G H e
theorem tB_of_tV {c : CE} {e : Expr} (h : PE X e (tV P C W c)) : PE X e (tB P C W c) := PE.mono h fun σ H Q ⟨DF, G, ρ, p, e, F, ev, k, kx⟩ => ⟨DF, G, ρ, p, e, F, ev, fun v H' G' d hd F' g r => k v H' G' d hd F' g (.inl r), kx⟩
theorem tQ_of_tV {b : Bool} {c : CE} {e : Expr} (h : PE X e (tV P C W c)) : PE X e (tQ P C W b c) := PE.mono h fun σ H Q ⟨DF, G, ρ, p, e, F, ev, k, kx⟩ => ⟨DF, G, ρ, p, e, F, ev, fun v H' G' d hd F' g r => k v H' G' d hd F' g (.inl r), kx⟩
theorem tQ_of_tB {c : CE} {e : Expr} (h : PE X e (tB P C W c)) : PE X e (tQ P C W true c) := PE.mono h fun σ H Q ⟨DF, G, ρ, p, e, F, ev, k, kx⟩ => ⟨DF, G, ρ, p, e, F, ev, fun v H' G' d hd F' g r => k v H' G' d hd F' g (.inr ⟨rfl, r⟩), kx⟩
theorem tV_of_tF {c : CE} {e : Expr} (h : PE X e (tF P C W c)) (l : ∀ ρ p e, evE C c ρ p e → evE C c ρ (fun d => asL d fun xs => p (.list xs)) e) : PE X e (tV P C W c) :=
  PE.mono h fun σ H Q ⟨DF, G, ρ, p, e, F, ev, k, kx⟩ => ⟨DF, G, ρ, _, e, F, l _ _ _ ev, fun a xs H' G' ds hd F' g n gn eq r => KV.kf k F a xs H' G' ds hd F' g n gn eq r, kx⟩
theorem pie_new {pins : List (Addr × Obj)} {σ : L2.St} {H : Hp} {s : Shared} {R : It → Hp → Prop} {tg : Expr} {J : It} {tn : Nat → Heap → Prop} {o : Obj} (I : Inv X pins σ H s) (T : Turn X.prog X.w X.K tg J [s.heap.objs.size] s.heap.objs.size tn)
    (st : tn 0 (s.heap.push o)) (q : R J H) : PIE X pins σ tg R (.ref s.heap.objs.size) { s with heap := s.heap.push o } := by
  refine ⟨_, _, tn, J, H, rfl, I.kept (t' := s.toks) fun b o e => Heap.get?_push_of_some _ e, T, st, fun b hb => ?_, q⟩
  obtain rfl : b = s.heap.objs.size := by simpa using hb
  exact I.fpOk (Nat.le_refl _) (I.hok.fresh (Nat.le_refl _))
theorem pi_anyW (hX : Cxf P C fns cs N X S W) {φ : L2.St → Hp → Prop} {b : Bool} {tg l : Expr} {c : CE} (h : PE X l (fun σ H Q => tQ P C W b c σ H Q ∧ φ σ H)) : PI X tg l (fun σ H R => tI P C W b (.seq c) σ H R ∧ φ σ H) := by
  refine ⟨fun pins s σ H R I hw => ?_⟩
  obtain ⟨⟨DF, G, ρ, p, e, F, ev, k, kx⟩, hφ⟩ := hw
  have hK := hX.o.K
  refine thn (h.run pins s σ H (fun x H1 => ∃ G1 d as, FrD P DF σ ρ G1 H1 ∧ Gr P.T DF G H G1 H1 ∧ (Rp P.K G1 x d ∨ (b = true ∧ Rb P.K DF G1 H1 x d)) ∧ (d = .list as ∨ d = .tuple as) ∧ p as) I
    ⟨⟨DF, G, ρ, _, e, F, ev, fun v H' G' d hd F' g r => (by obtain ⟨as, h1, h2⟩ := asS_inv hd; exact ⟨G', d, as, F', g, r, h1, h2⟩), kx⟩, hφ⟩) fun v s1 ⟨x, H1, I1, r1, G1, d, as, F1, g, rb, hd, hp⟩ => ?_
  rcases hd with rfl | rfl
  · obtain ⟨a, xs, rfl, e0, e1, q1⟩ : ∃ a xs, x = .ref a ∧ (G1 a = some (.lst xs) ∨ (b = true ∧ NotIn a DF ∧ H1 a = some (.lst xs))) ∧ H1 a = some (.lst xs) ∧ Rps P.K G1 xs as := by
      rcases rb with r | ⟨hb, r | ⟨q, e, n, ys, z, r⟩⟩
      · cases r with
        | lst e r => exact ⟨_, _, rfl, .inl e, F1.sub _ _ e, r⟩
      · cases r with
        | lst e r => exact ⟨_, _, rfl, .inl e, F1.sub _ _ e, r⟩
      · exact ⟨q, ys, e, .inr ⟨hb, n, z⟩, z, r⟩
    cases r1
    obtain ⟨its, rv, pl, hz⟩ := I1.list (SqL.of (K := X.K) e1)
    exact wpAny_pyIter_list pl.isList (pie_new I1 (tn := fun i h => h.IsListIter s1.heap.objs.size a i) (by rw [← hK]; exact turn_list a _) ⟨_, Heap.get?_push_size _ rfl, rfl, rfl⟩ (k _ _ _ as hp F1 g (.l e0 q1 (by rw [← q1.length]; exact hz))))
  · obtain ⟨a, xs, rfl, e1, q1⟩ : ∃ a xs, x = .ref a ∧ SqT P.K G1 a xs ∧ Rps P.K G1 xs as := by
      rcases rb with r | ⟨hb, r | ⟨q, e, n, z⟩⟩
      · cases r with
        | tup e r => exact ⟨_, _, rfl, e.sq, r⟩
      · cases r with
        | tup e r => exact ⟨_, _, rfl, e.sq, r⟩
      · exact z.elim
    cases r1
    have e2 : SqT X.K H1 a xs := by rw [hK]; exact F1.sub.sqT e1
    obtain ⟨its, rv, pl, hz⟩ := I1.tuple e2
    exact wpAny_pyIter_tuple (show s1.heap.IsTuple a its.toArray from pl) (pie_new I1 (tn := fun i h => h.IsTupleIter s1.heap.objs.size a i) (by rw [← hK]; exact turn_tuple a _) ⟨_, Heap.get?_push_size _ rfl, rfl, rfl⟩ (k _ _ _ as hp F1 g (.t e1 q1 (by rw [← q1.length]; exact hz))))

theorem pi_any (hX : Cxf P C fns cs N X S W) {b : Bool} {tg l : Expr} {c : CE} (h : PE X l (tQ P C W b c)) : PI X tg l (tI P C W b (.seq c)) :=
  have q := pi_anyW hX (φ := fun _ _ => True) (tg := tg) (PE.mono h fun σ H Q z => z.1)
  ⟨fun pins s σ H R I hw => q.run pins s σ H R I ⟨hw, trivial⟩⟩

/-- the signs of a text -/
theorem i_chr {b : Bool} {tg l : Expr} {a : CE} (h : PE X l (tV P C W a)) : PI X tg l (tI P C W b (.chr a)) := by
  have q := pi_str (tg := tg) h
  refine ⟨fun pins s σ H R I hw => q.run pins s σ H R I ?_⟩
  obtain ⟨DF, G, ρ, p, e, F, ev, k, kx⟩ := hw
  rw [evI] at ev
  refine ⟨DF, G, ρ, _, e, F, ev, fun v H1 G1 d hd F1 g1 r1 => ?_, kx⟩
  obtain ⟨x, rfl, h1, h2⟩ := asX_inv hd
  cases r1
  exact ⟨x, rfl, k _ _ _ _ h2 F1 g1 (.s h1)⟩
/-! ### comprehensions -/
theorem cmpF_nil {F : PyData → (List PyData → Prop) → Prop} {p : List PyData → Prop} : cmpF F [] p = p [] := rfl
theorem cmpF_cons {F : PyData → (List PyData → Prop) → Prop} {a : PyData} {as : List PyData} {p : List PyData → Prop} : cmpF F (a :: as) p = F a fun r => cmpF F as fun ds => p (r ++ ds) := rfl
theorem drop_get {α : Type} {l : List α} {i : Nat} {d : α} (h : l[i]? = some d) : l.drop i = d :: l.drop (i + 1) := by
  obtain ⟨hi, e⟩ := List.getElem?_eq_some_iff.mp h
  rw [List.drop_eq_getElem_cons hi, e]
/-- one clause's turn: F's item -/
def oneF (C : Orc) (elt : CE) (tg : Tg) (t : CE) (ρ : Env) (a : PyData) (k : List PyData → Prop) : Prop :=
  setTg tg a ρ fun ρ1 => evE C t ρ1 (fun c => asB c fun c => if c = true then evE C elt ρ1 (fun d => k [d]) noE else k []) noE
/-- what holds of the new list D along a walk: G1, H1 the start -/
structure Grown (P : Px) (DF : DFt) (σ : L2.St) (ρ : Env) (G1 H1 : Hp) (D : Addr) (G2 H2 : Hp) (acc : List V) (ds : List PyData) : Prop where
  F : FrD P DF σ ρ G2 H2
  g : Gr P.T DF G1 H1 G2 H2
  nG : G2 D = none
  at_ : H2 D = some (.lst acc)
  rs : Rps P.K G2 acc ds
section
variable {DF : DFt} {σ σ' : L2.St} {ρ ρ' : Env} {G1 H1 G2 H2 G3 H3 : Hp} {D : Addr} {acc : List V} {ds : List PyData}
theorem Grown.start (F : FrD P DF σ ρ G1 H1) (n : H1 D = none) : Grown P DF σ ρ G1 H1 D G1 (upd H1 D (.lst [])) [] [] := by
  obtain ⟨F1, g⟩ := F.more (o := .lst []) n
  exact ⟨F1, g, F.none_of n, upd_same, .nil⟩
theorem Grown.on (h : Grown P DF σ ρ G1 H1 D G2 H2 acc ds) (nd : NotIn D DF) (g : Gr P.T DF G2 H2 G3 H3) (F' : FrD P DF σ' ρ' G3 H3) : Grown P DF σ ρ G1 H1 D G3 H3 acc ds where
  F := h.F.swap g F'
  g := h.g.trans g
  nG := by
    cases e : G3 D with
    | none => rfl
    | some o =>
      rcases g.new D o e with z | z
      · rw [h.nG] at z; cases z
      · exact (z.no h.at_).elim
  at_ := g.keep D _ h.at_ trivial nd
  rs := h.rs.mono g.sub
theorem Grown.push (h : Grown P DF σ ρ G1 H1 D G2 H2 acc ds) (n : H1 D = none) (nd : Fr0 P.H0 D ∧ NotIn D DF) (no : ∀ (i : Nat) d, ρ[i]? = some (.own d) → σ[i]? ≠ some (some (.ref D))) {y : V} {d : PyData} (r : Rp P.K G2 y d) :
    Grown P DF σ ρ G1 H1 D G2 (upd H2 D (.lst (acc ++ [y]))) (acc ++ [y]) (ds ++ [d]) where
  F := h.F.poke h.at_ h.nG nd.1 nd.2 no
  g := ⟨h.g.sub, fun a o e nt m => by rw [upd_ne (ne_of_none e n)]; exact h.g.keep a o e nt m, h.g.new, fun a e => h.g.live a (fr0_wr (xs := acc) a e), fun t => tabs_wr (h.g.tab t) h.at_⟩
  nG := h.nG
  at_ := upd_same
  rs := h.rs.append (.cons r .nil)
/-- by another frame of ours that was there at the start -/
theorem Grown.to (h : Grown P DF σ ρ G1 H1 D G2 H2 acc ds) (F1 : FrD P DF σ' ρ' G1 H1) : Grown P DF σ' ρ' G1 H1 D G2 H2 acc ds := ⟨F1.swap h.g h.F, h.g, h.nG, h.at_, h.rs⟩
theorem Grown.as (h : Grown P DF σ ρ G1 H1 D G2 H2 acc ds) (F' : FrD P DF σ' ρ' G2 H2) : Grown P DF σ' ρ' G1 H1 D G2 H2 acc ds := ⟨F', h.g, h.nG, h.at_, h.rs⟩
end
/-- the reading of one clause's turn, wants in Nx -/
theorem one_ok {DF : DFt} {σ σ0 : L2.St} {ρ ρ0 : Env} {G1 H1 G2 H2 : Hp} {D : Addr} {acc : List V} {ds : List PyData} {elt t : CE} {tg : Tg} {x : V} {d : PyData} {k : List PyData → Prop} {Nx : Hp → Prop} {vs : List Nat} {w : L2.St} (hw : L2.wipe σ0 vs = w)
    (n : H1 D = none) (nd : Fr0 P.H0 D ∧ NotIn D DF) (no : ∀ (i : Nat) d, ρ[i]? = some (.own d) → σ[i]? ≠ some (some (.ref D))) (g : Grown P DF σ ρ G1 H1 D G2 H2 acc ds) (F0 : FrD P DF σ0 ρ0 G2 H2) (rx : Rp P.K G2 x d) (h : oneF C elt tg t ρ0 d k)
    (hv : ∀ i ∈ tgs tg, i ∈ vs) (hz : acc.length < sizeLine)
    (q1 : ∀ G3 H3 y dy, k [dy] → Sub G2 G3 → Grown P DF σ ρ G1 H1 D G3 (upd H3 D (.lst (acc ++ [y]))) (acc ++ [y]) (ds ++ [dy]) → Nx (upd H3 D (.lst (acc ++ [y]))))
    (q0 : ∀ G3 H3, k [] → Sub G2 G3 → Grown P DF σ ρ G1 H1 D G3 H3 acc ds → Nx H3) :
    gT P.K tg x σ0 H2 fun σ2 H2 => L2.wipe σ2 vs = w ∧ tT P C WF t σ2 H2 fun b H3 => if b = true then tV P C WF elt σ2 H3 fun y H4 => ∃ acc, H4 D = some (.lst acc) ∧ acc.length < sizeLine ∧ Nx (upd H4 D (.lst (acc ++ [y]))) else Nx H3 := by
  refine gT_ok tg F0 rx h fun σ3 ρ3 hev F3 so ol => ⟨(so.more hv).wipe_eq.trans hw, DF, G2, ρ3, _, noE, F3, hev, fun b H4 G4 hb F4 g4 => ?_, KX.noE⟩
  cases b with
  | true =>
    rw [if_pos rfl] at hb ⊢
    refine ⟨DF, G4, ρ3, _, noE, F4, hb, fun y H5 G5 dy hy F5 g5 ry => ?_, KX.noE⟩
    have gg := g.on nd.2 (g4.trans g5) F5
    exact ⟨acc, gg.at_, hz, q1 _ _ y dy hy (g4.sub.trans g5.sub) (gg.push n nd no ry)⟩
  | false =>
    rw [if_neg (by decide)] at hb ⊢
    exact q0 _ _ hb g4.sub (g.on nd.2 g4 F4)
theorem lc_ok {it : CI} {elt t : CE} {tg : Tg} {vs : List Nat} (hvs : vs = tgs tg) (σ : L2.St) (H : Hp) (Q : VK) (h : tF P C W (.comp elt tg it t) σ H Q) :
    tLc (tI P C W true it) (gT P.K tg) (tT P C WF t) (tV P C WF elt) vs σ H Q := by
  subst hvs
  obtain ⟨DF, G, ρ, p, e, F, ev, k, kx⟩ := h
  rw [evE] at ev
  refine ⟨DF, G, ρ, _, e, F, ev, fun J H1 G1 as hp F1 g1 it D hD => ?_, kx⟩
  have hp : cmpF (oneF C elt tg t (wipeE ρ (tgs tg))) as (fun ds => p (.list ds)) := hp
  refine ⟨fun i m H2 => m = as.length - i ∧ i ≤ as.length ∧ ∃ G2 acc ds, Grown P DF σ ρ G1 H1 D G2 H2 acc ds ∧ acc.length ≤ i ∧ cmpF (oneF C elt tg t (wipeE ρ (tgs tg))) (as.drop i) (fun r => p (.list (ds ++ r))),
    ⟨as.length, rfl, Nat.zero_le _, G1, [], [], Grown.start F1 hD, Nat.le_refl _, hp⟩, ?_⟩
  rintro i m H2 ⟨rfl, hi, G2, acc, ds, gr, hl, hc⟩
  have it2 := it.grow gr.g
  by_cases hlt : i < as.length
  · refine .inr ⟨it2.go gr.F.sub hlt, fun H3 => ∃ G3 acc ds, Grown P DF σ ρ G1 H1 D G3 H3 acc ds ∧ acc.length ≤ i + 1 ∧ cmpF (oneF C elt tg t (wipeE ρ (tgs tg))) (as.drop (i + 1)) (fun r => p (.list (ds ++ r))),
      fun H3 h3 => ⟨as.length - (i + 1), by omega, rfl, hlt, h3⟩, fun x H3 hy => ?_⟩
    obtain ⟨rfl, d, hd, rx⟩ := it2.yld gr.F.sub hlt hy
    rw [drop_get hd, cmpF_cons] at hc
    have hz := it.len
    exact one_ok (vs := tgs tg) (w := L2.wipe σ (tgs tg)) (Same.wiped σ (tgs tg)).wipe_eq (Nx := fun H3 => ∃ G3 acc ds, Grown P DF σ ρ G1 H1 D G3 H3 acc ds ∧ acc.length ≤ i + 1 ∧ cmpF (oneF C elt tg t (wipeE ρ (tgs tg))) (as.drop (i + 1)) (fun r => p (.list (ds ++ r)))) hD (F1.h0 (.of hD)) (F1.notOwn (.of hD)) gr (gr.F.wipe (tgs tg)) rx hc (fun _ m => m) (by omega)
      (fun G3 H3 y dy hk _ gn => ⟨G3, _, _, gn, by rw [List.length_append, List.length_singleton]; omega, by simpa using hk⟩)
      (fun G3 H3 hk _ gn => ⟨G3, _, _, gn, by omega, by simpa using hk⟩)
  · obtain rfl : i = as.length := by omega
    rw [List.drop_length, cmpF_nil, List.append_nil] at hc
    exact .inl ⟨it2.stop gr.F.sub, k D acc H2 G2 ds hc gr.F (g1.trans gr.g) (g1.live D (.of hD)) gr.nG gr.at_ gr.rs⟩
/-- a clause over a clause: the first one's turn -/
def twoF (C : Orc) (elt : CE) (tg : Tg) (t : CE) (tg1 : Tg) (it1 : CI) (t1 : CE) (ρ : Env) (n : Nat) (a : PyData) (k : List PyData → Prop) : Prop :=
  setTg tg a ρ fun ρ1 => evE C t ρ1 (fun c => asB c fun c => if c = true then evI C it1 ρ1 (fun as1 => n + as1.length ≤ LIM ∧ cmpF (oneF C elt tg1 t1 (wipeE ρ1 (tgs tg1))) as1 k) noE else k []) noE
theorem cmpN_nil {F : Nat → PyData → (List PyData → Prop) → Prop} {n : Nat} {p : List PyData → Prop} : cmpN F n [] p = p [] := rfl
theorem cmpN_cons {F : Nat → PyData → (List PyData → Prop) → Prop} {n : Nat} {a : PyData} {as : List PyData} {p : List PyData → Prop} : cmpN F n (a :: as) p = F n a fun r => cmpN F (n + r.length) as fun ds => p (r ++ ds) := rfl
theorem lc2_ok {it it1 : CI} {elt t t1 : CE} {tg tg1 : Tg} {vs vs1 : List Nat} (hvs : vs = tgs tg ++ tgs tg1) (hvs1 : vs1 = tgs tg1) (σ : L2.St) (H : Hp) (Q : VK) (h : tF P C W (.comp2 elt tg it t tg1 it1 t1) σ H Q) :
    tLc2 (tI P C W true it) (gT P.K tg) (tT P C WF t) (tI P C WF false it1) (gT P.K tg1) (tT P C WF t1) (tV P C WF elt) vs vs1 σ H Q := by
  subst hvs hvs1
  obtain ⟨DF, G, ρ, p, e, F, ev, k, kx⟩ := h
  rw [evE] at ev
  refine ⟨DF, G, ρ, _, e, F, ev, fun J H1 G1 as hp F1 g1 it D hD => ?_, kx⟩
  generalize hρ : wipeE ρ (tgs tg ++ tgs tg1) = ρw at hp
  generalize hσ : L2.wipe σ (tgs tg ++ tgs tg1) = σw
  have hp : cmpN (twoF C elt tg t tg1 it1 t1 ρw) 0 as (fun ds => p (.list ds)) := hp
  have hll := line_lim
  have nd := F1.h0 (.of hD)
  have no := F1.notOwn (.of hD)
  refine ⟨fun i m H2 => m = as.length - i ∧ i ≤ as.length ∧ ∃ G2 acc ds, Grown P DF σ ρ G1 H1 D G2 H2 acc ds ∧ ds.length ≤ LIM ∧ cmpN (twoF C elt tg t tg1 it1 t1 ρw) ds.length (as.drop i) (fun r => p (.list (ds ++ r))),
    ⟨as.length, rfl, Nat.zero_le _, G1, [], [], Grown.start F1 hD, Nat.zero_le _, hp⟩, ?_⟩
  rintro i m H2 ⟨rfl, hi, G2, acc, ds, gr, hl, hc⟩
  have it2 := it.grow gr.g
  by_cases hlt : i < as.length
  · refine .inr ⟨it2.go gr.F.sub hlt, fun H3 => ∃ G3 acc ds, Grown P DF σ ρ G1 H1 D G3 H3 acc ds ∧ ds.length ≤ LIM ∧ cmpN (twoF C elt tg t tg1 it1 t1 ρw) ds.length (as.drop (i + 1)) (fun r => p (.list (ds ++ r))),
      fun H3 h3 => ⟨as.length - (i + 1), by omega, rfl, hlt, h3⟩, fun x H3 hy => ?_⟩
    obtain ⟨rfl, d, hd, rx⟩ := it2.yld gr.F.sub hlt hy
    rw [drop_get hd, cmpN_cons] at hc
    have Fw : FrD P DF σw ρw G2 H3 := by rw [← hσ, ← hρ]; exact gr.F.wipe _
    have olw : OwnLe σ ρ σw ρw := by rw [← hσ, ← hρ]; exact OwnLe.wipe gr.F.len _
    refine gT_ok tg Fw rx hc fun σ3 ρ3 hev F3 so ol => ⟨?_, DF, G2, ρ3, _, noE, F3, hev, fun b H4 G4 hb F4 g4 => ?_, KX.noE⟩
    · rw [← hσ] at so ⊢
      exact (so.more fun i m => List.mem_append_left _ m).wipe_eq.trans ((Same.wiped σ _).wipe_eq)
    cases b with
    | false =>
      rw [if_neg (by decide)] at hb ⊢
      refine ⟨G4, acc, ds, gr.on nd.2 g4 F4, hl, ?_⟩
      have hb : cmpN (twoF C elt tg t tg1 it1 t1 ρw) (ds.length + 0) (as.drop (i + 1)) (fun ds' => p (.list (ds ++ ([] ++ ds')))) := hb
      exact hb
    | true =>
      rw [if_pos rfl] at hb ⊢
      refine ⟨DF, G4, ρ3, _, noE, F4, hb, fun J1 H5 G5 as1 ⟨hn, hp1⟩ F5 g5 itd => ?_, KX.noE⟩
      have gr5 := (gr.on nd.2 (g4.trans g5) F5).as F5
      have no3 : ∀ (i : Nat) d, ρ3[i]? = some (.own d) → σ3[i]? ≠ some (some (.ref D)) := fun i d e => by
        obtain ⟨e1, e2⟩ := (olw.trans ol) i d e
        rw [e2]; exact no i d e1
      refine ⟨fun j k H6 => k = as1.length - j ∧ j ≤ as1.length ∧ ∃ G6 acc6 r, Grown P DF σ3 ρ3 G1 H1 D G6 H6 acc6 (ds ++ r) ∧ Sub G5 G6 ∧ r.length ≤ j ∧
        cmpF (oneF C elt tg1 t1 (wipeE ρ3 (tgs tg1))) (as1.drop j) (fun r' => cmpN (twoF C elt tg t tg1 it1 t1 ρw) (ds.length + (r ++ r').length) (as.drop (i + 1)) fun ds' => p (.list (ds ++ ((r ++ r') ++ ds')))),
        ⟨as1.length, rfl, Nat.zero_le _, G5, acc, [], by rw [List.append_nil]; exact gr5, Sub.refl _, Nat.le_refl _, hp1⟩, ?_⟩
      rintro j k6 H6 ⟨rfl, hj, G6, acc6, r, gr6, s6, hr, hc6⟩
      have it6 : ItD false P.K DF G6 H6 J1 as1 := itd.sub s6
      by_cases hjl : j < as1.length
      · refine .inr ⟨it6.go gr6.F.sub hjl, fun H7 => ∃ G7 acc7 r, Grown P DF σ3 ρ3 G1 H1 D G7 H7 acc7 (ds ++ r) ∧ Sub G5 G7 ∧ r.length ≤ j + 1 ∧
            cmpF (oneF C elt tg1 t1 (wipeE ρ3 (tgs tg1))) (as1.drop (j + 1)) (fun r' => cmpN (twoF C elt tg t tg1 it1 t1 ρw) (ds.length + (r ++ r').length) (as.drop (i + 1)) fun ds' => p (.list (ds ++ ((r ++ r') ++ ds')))),
          fun H7 h7 => ⟨as1.length - (j + 1), by omega, rfl, hjl, h7⟩, fun x1 H7 hy1 => ?_⟩
        obtain ⟨rfl, d1, hd1, rx1⟩ := it6.yld gr6.F.sub hjl hy1
        rw [drop_get hd1, cmpF_cons] at hc6
        have hz : acc6.length < sizeLine := by
          have := gr6.rs.length
          rw [List.length_append] at this
          omega
        refine one_ok (vs := tgs tg1) (w := L2.wipe σ3 (tgs tg1)) (Same.wiped σ3 (tgs tg1)).wipe_eq (Nx := fun H7 => ∃ G7 acc7 r, Grown P DF σ3 ρ3 G1 H1 D G7 H7 acc7 (ds ++ r) ∧ Sub G5 G7 ∧ r.length ≤ j + 1 ∧
            cmpF (oneF C elt tg1 t1 (wipeE ρ3 (tgs tg1))) (as1.drop (j + 1)) (fun r' => cmpN (twoF C elt tg t tg1 it1 t1 ρw) (ds.length + (r ++ r').length) (as.drop (i + 1)) fun ds' => p (.list (ds ++ ((r ++ r') ++ ds')))))
          hD nd no3 gr6 (gr6.F.wipe (tgs tg1)) rx1 hc6 (fun _ m => m) hz (fun G8 H8 y dy hk s8 gn => ⟨G8, _, r ++ [dy], by rw [← List.append_assoc]; exact gn, s6.trans s8, ?_, ?_⟩) (fun G8 H8 hk s8 gn => ⟨G8, _, r, gn, s6.trans s8, by omega, ?_⟩)
        · rw [List.length_append, List.length_singleton]; omega
        · have hk : cmpF (oneF C elt tg1 t1 (wipeE ρ3 (tgs tg1))) (as1.drop (j + 1)) (fun r' => cmpN (twoF C elt tg t tg1 it1 t1 ρw) (ds.length + (r ++ ([dy] ++ r')).length) (as.drop (i + 1)) fun ds' => p (.list (ds ++ ((r ++ ([dy] ++ r')) ++ ds')))) := hk
          simpa only [List.append_assoc] using hk
        · exact hk
      · obtain rfl : j = as1.length := by omega
        rw [List.drop_length, cmpF_nil, List.append_nil] at hc6
        refine .inl ⟨it6.stop gr6.F.sub, G6, acc6, ds ++ r, gr6.to F1, by rw [List.length_append]; omega, ?_⟩
        rw [List.length_append]
        simpa only [List.append_assoc] using hc6
  · obtain rfl : i = as.length := by omega
    rw [List.drop_length, cmpN_nil, List.append_nil] at hc
    exact .inl ⟨it2.stop gr.F.sub, k D acc H2 G2 ds hc gr.F (g1.trans gr.g) (g1.live D (.of hD)) gr.nG gr.at_ gr.rs⟩
end
end Pv
set_option Elab.async false
set_option linter.all false
set_option maxRecDepth 100000
set_option maxHeartbeats 4000000
/-! Core 10: every expression means what its compact text says. Own work. -/
set_option autoImplicit false
namespace Pv
open PySem PySem.Spec L2

section
variable {P : Px} {C : Orc} {fns : List Str} {cs : List (Str × PyData)} {N : List Str} {X : Cx} {S : Scope} {W : WX}
/-! ### one step each -/
theorem Rps.fm {K : PySem.W.Frag} {G : Hp} {xs : List V} {ds : List PyData} (r : Rps K G xs ds) (f : Nat → Nat) : ∀ l : List Nat, Rps K G (l.filterMap fun m => xs[f m]?) (l.filterMap fun m => ds[f m]?)
  | [] => .nil
  | m :: l => by
    rw [List.filterMap_cons, List.filterMap_cons]
    cases h : xs[f m]? with
    | none =>
      have : ds[f m]? = none := by
        rw [List.getElem?_eq_none_iff] at h ⊢
        rw [← r.length]; exact h
      rw [this]
      exact r.fm f l
    | some v =>
      obtain ⟨d, h2, h3⟩ := r.getV h
      rw [h2]
      exact .cons h3 (r.fm f l)
theorem Rps.fm_len {K : PySem.W.Frag} {G : Hp} {xs : List V} {ds : List PyData} (r : Rps K G xs ds) (f : Nat → Nat) (l : List Nat) : (l.filterMap fun m => xs[f m]?).length = (l.filterMap fun m => ds[f m]?).length := (r.fm f l).length
theorem Rps.step {K : PySem.W.Frag} {G : Hp} {xs : List V} {ds : List PyData} (r : Rps K G xs ds) (k : Int) : Rps K G (stepG k xs) (stepG k ds) := by
  unfold stepG
  rw [r.length]
  exact r.fm _ _
theorem e_cst (hX : Cxf P C fns cs N X S W) {d : PyData} {e : Expr} (h : mCst d e = true) : PE X e (tV P C W (.cst d)) := by
  obtain ⟨c, k, p, rfl, hc⟩ := mCst_inv h
  rcases cstB_inv hc with ⟨rfl, rfl⟩ | ⟨b, rfl, rfl⟩ | ⟨b, rfl, rfl⟩ | ⟨b, rfl, rfl⟩
  · exact PE.mono pe_non fun σ H Q ⟨DF, G, ρ, p, e, F, ev, k, kx⟩ => KV.here k F ev .non
  · exact PE.mono pe_bl fun σ H Q ⟨DF, G, ρ, p, e, F, ev, k, kx⟩ => KV.here k F ev (.bl b)
  · exact PE.mono pe_int fun σ H Q ⟨DF, G, ρ, p, e, F, ev, k, kx⟩ => KV.here k F ev (.int b)
  · exact PE.mono pe_str fun σ H Q ⟨DF, G, ρ, p, e, F, ev, k, kx⟩ => KV.here k F ev (.str b)
theorem slotV_inv {o : Option Slot} {p : PyData → Prop} (h : slotV o p) : ∃ d, o = some (.v d) ∧ p d := by
  unfold slotV at h
  split at h
  · exact ⟨_, rfl, h⟩
  · exact h.elim
theorem slotO_inv {o : Option Slot} {p : PyData → Prop} (h : slotO o p) : ∃ d, o = some (.own d) ∧ p d := by
  unfold slotO at h
  split at h
  · exact ⟨_, rfl, h⟩
  · exact h.elim
theorem slotS_inv {o : Option Slot} {p : Slot → Prop} (h : slotS o p) : o = some .st ∧ p .st := by
  unfold slotS at h
  split at h
  · exact ⟨rfl, h⟩
  · exact h.elim
theorem e_var (hX : Cxf P C fns cs N X S W) {i : Nat} {e : Expr} (h : mNm N S i e = true) : PE X e (tVar i) := by
  obtain ⟨x, p, rfl, hx⟩ := mNm_inv h
  obtain ⟨h1, h2, h3, h4⟩ := nmB_inv hx
  rw [← hX.o.hN] at h1
  rw [← hX.o.sc] at h2
  exact pe_var h1 h2 h3 h4
theorem e_nm (hX : Cxf P C fns cs N X S W) {i : Nat} {e : Expr} (h : mNm N S i e = true) : PE X e (tV P C W (.nm i)) :=
  PE.mono (e_var hX h) fun σ H Q ⟨DF, G, ρ, p, e, F, ev, k, kx⟩ => by
    rw [evE] at ev
    obtain ⟨d, h1, h2⟩ := slotV_inv ev
    obtain ⟨v, h3, h4⟩ := F.slots i _ h1
    exact ⟨v, h3, KV.here k F h2 h4⟩
theorem e_bo (hX : Cxf P C fns cs N X S W) {c : CE} {e : Expr} (h : boB N S c e = true) : PE X e (tB P C W c) := by
  cases c with
  | bo i =>
    refine PE.mono (e_var hX (show mNm N S i e = true from h)) fun σ H Q ⟨DF, G, ρ, p, e, F, ev, k, kx⟩ => ?_
    rw [evE] at ev
    obtain ⟨d, h1, h2⟩ := slotO_inv ev
    obtain ⟨p, h3, h4, h5, h6, h7⟩ := F.slots i _ h1
    exact ⟨.ref p, h3, k _ H G d h2 F (Gr.refl _ _ _ _) (.inr ⟨p, rfl, h6, h7⟩)⟩
  | _ => cases h
theorem e_gl (hX : Cxf P C fns cs N X S W) {k : Nat} {x : Str} {d : PyData} {e : Expr} (h : mGl cs S k x d e = true) : PE X e (tV P C W (.gl k x d)) := by
  obtain ⟨p, rfl, h1, h2⟩ := mGl_inv h
  obtain ⟨g1, g2⟩ := hX.glo h1
  obtain ⟨v, u, m, r, rp⟩ := hX.o.gl k x d h2
  exact PE.mono (pe_glob g1 m r g2) fun σ H Q ⟨DF, G, ρ, p, e, F, ev, k, kx⟩ => KV.here k F ev (rp.mono fun _ _ z => by cases z)
theorem e_neg {a : CE} {x : Expr} {p : Pos} (h : PE X x (tV P C W a)) : PE X (.UnaryOp .USub x p) (tV P C W (.neg a)) :=
  PE.mono (pe_un un_neg h) fun σ H Q ⟨DF, G, ρ, p, e, F, ev, k, kx⟩ => ⟨DF, G, ρ, _, e, F, ev, fun v H' G' d hd F' g r => (by
    replace hd := asI_inv hd; obtain ⟨i, rfl, hd⟩ := hd
    cases r
    exact ⟨i, rfl, k _ _ _ _ hd F' g (.int _)⟩), kx⟩
theorem tOp_of {g : PyData → PyData → (PyData → Prop) → Prop} {a b : CE} {σ : L2.St} {H : Hp} {Q : VK} {DF : DFt} {G : Hp} {ρ : Env} {p : PyData → Prop} {e : Ex → Prop} (F : FrD P DF σ ρ G H) (ev : evE C a ρ (fun x => evE C b ρ (fun y => g x y p) e) e)
    (k : KV P DF σ ρ G H p Q) (kx : KX P W DF σ ρ G H e) : tOp (rO P g) (tB P C W a) (tB P C W b) σ H Q :=
  ⟨DF, G, ρ, _, e, F, ev, fun v H1 G1 d hd F1 g1 r1 => ⟨DF, G1, ρ, _, e, F1, hd, fun u H2 G2 d2 hd2 F2 g2 r2 => ⟨DF, G2, σ, ρ, p, d, d2, F2, r1.keep g2, r2, hd2, k.step (g1.trans g2)⟩, kx.step g1⟩, kx⟩
theorem e_bin (hX : Cxf P C fns cs N X S W) {o : Op2} {a b : CE} {x y : Expr} {p : Pos} (ha : PE X x (tB P C W a)) (hb : PE X y (tB P C W b)) : PE X (.BinOp x (op2O o) y p) (tV P C W (.bin o a b)) :=
  PE.mono (pe_op (op2_ok hX.o o) ha hb) fun σ H Q ⟨DF, G, ρ, p, e, F, ev, k, kx⟩ => tOp_of (p := p) F ev k kx
theorem e_cmp (hX : Cxf P C fns cs N X S W) {o : Cmp} {a b : CE} {x y : Expr} {p : Pos} (ha : PE X x (tB P C W a)) (hb : PE X y (tB P C W b)) (hy : fineX y = true) : PE X (.Compare x [cmpO o] [y] p) (tV P C W (.cmp o a b)) :=
  PE.mono (pe_cmpR (cmp_ok hX.o o) ha hb (nomarks hy)) fun σ H Q ⟨DF, G, ρ, p, e, F, ev, k, kx⟩ => tOp_of (p := p) F ev k kx
theorem e_cmpT (hX : Cxf P C fns cs N X S W) {o : Cmp} {a b : CE} {x y : Expr} {p : Pos} (ha : PE X x (tB P C W a)) (hb : PE X y (tB P C W b)) (hy : fineX y = true) : PT X (.Compare x [cmpO o] [y] p) (tT P C W (.cmp o a b)) :=
  PT.mono (pt_cmpR (cmp_ok hX.o o) ha hb (nomarks hy)) fun σ H Q ⟨DF, G, ρ, p, e, F, ev, k, kx⟩ => tOp_of (g := cmpB o) (p := fun d => asB d p) F ev (fun v H' G' d hd F' g r => by
    replace hd := asB_inv hd; obtain ⟨b, rfl, hd⟩ := hd
    cases r
    exact ⟨b, rfl, k _ _ _ hd F' g⟩) kx
/-- a value's test -/
theorem t_of {c : CE} {e : Expr} (h : PE X e (tV P C W c)) (he : ∀ whole, isTrue e X.env whole = (do let v ← whole; standAt e.pos; holding [v] (truthy v))) : PT X e (tT P C W c) :=
  PT.mono (pt_val h he) fun σ H Q ⟨DF, G, ρ, p, e, F, ev, k, kx⟩ => ⟨DF, G, ρ, _, e, F, ev, fun v H' G' d hd F' g r => (by
    replace hd := asB_inv hd; obtain ⟨b, rfl, hd⟩ := hd
    cases r
    exact ⟨b, rfl, k _ _ _ hd F' g⟩), kx⟩
theorem tChain_of {o o' : Cmp} {a b c : CE} {σ : L2.St} {H : Hp} {Q : VK} {DF : DFt} {G : Hp} {ρ : Env} {p : PyData → Prop} {e : Ex → Prop} (F : FrD P DF σ ρ G H) (ev : evE C (.chn o o' a b c) ρ p e)
    (k : KV P DF σ ρ G H p Q) (kx : KX P W DF σ ρ G H e) : tChain (rO P (cmpB o)) (rO P (cmpB o')) (tV P C W a) (tV P C W b) (tV P C W c) σ H Q := by
  rw [evE] at ev
  refine ⟨DF, G, ρ, _, e, F, ev, fun v H1 G1 d hd F1 g1 r1 => ⟨DF, G1, ρ, _, e, F1, hd, fun u H2 G2 d2 hd2 F2 g2 r2 => ?_, kx.step g1⟩, kx⟩
  refine ⟨DF, G2, σ, ρ, fun z => asB z fun z => if z = true then evE C c ρ (fun w => cmpD o' d2 w fun c => p (.bool c)) e else p (.bool false), d, d2, F2, .inl (r1.mono g2.sub), .inl r2, hd2, fun z H3 G3 d3 hd3 F3 g3 r3 => ?_⟩
  replace hd3 := asB_inv hd3; obtain ⟨q, rfl, hd3⟩ := hd3
  cases r3
  refine ⟨q, rfl, ?_⟩
  cases q with
  | true =>
    rw [if_pos rfl] at hd3 ⊢
    exact ⟨DF, G3, ρ, _, e, F3, hd3, fun w H4 G4 d4 hd4 F4 g4 r4 => ⟨DF, G4, σ, ρ, p, d2, d4, F4, .inl (r2.mono (g3.sub.trans g4.sub)), .inl r4, hd4, k.step (g1.trans (g2.trans (g3.trans g4)))⟩, kx.step (g1.trans (g2.trans g3))⟩
  | false =>
    rw [if_neg (by decide)] at hd3 ⊢
    exact (k.step (g1.trans (g2.trans g3))).here F3 hd3 (.bl false)
theorem lastm {o o' : CmpOp} {y z : Expr} (h : fineX z = true) : lastMarks [o, o'] [y, z] = false := by
  show behindInMarks o' z = false
  exact nomarks h
theorem e_chn (hX : Cxf P C fns cs N X S W) {o o' : Cmp} {a b c : CE} {x y z : Expr} {p : Pos} (ha : PE X x (tV P C W a)) (hb : PE X y (tV P C W b)) (hc : PE X z (tV P C W c)) (hz : fineX z = true) : PE X (.Compare x [cmpO o, cmpO o'] [y, z] p) (tV P C W (.chn o o' a b c)) :=
  PE.mono (pe_chain (cmp_ok hX.o o) (cmp_ok hX.o o') ha hb hc (lastm hz)) fun σ H Q ⟨DF, G, ρ, p, e, F, ev, k, kx⟩ => tChain_of F ev k kx
theorem e_chnT (hX : Cxf P C fns cs N X S W) {o o' : Cmp} {a b c : CE} {x y z : Expr} {p : Pos} (ha : PE X x (tV P C W a)) (hb : PE X y (tV P C W b)) (hc : PE X z (tV P C W c)) (hz : fineX z = true) : PT X (.Compare x [cmpO o, cmpO o'] [y, z] p) (tT P C W (.chn o o' a b c)) :=
  PT.mono (pt_chain (cmp_ok hX.o o) (cmp_ok hX.o o') ha hb hc (lastm hz)) fun σ H Q ⟨DF, G, ρ, p, e, F, ev, k, kx⟩ => tChain_of (p := fun d => asB d p) F ev (fun v H' G' d hd F' g r => by
    replace hd := asB_inv hd; obtain ⟨b, rfl, hd⟩ := hd
    cases r
    exact ⟨b, rfl, k _ _ _ hd F' g⟩) kx
theorem e_and {a b : CE} {x : Expr} {xs : List Expr} {p : Pos} (ha : PE X x (tV P C W a)) (hb : ∀ y, mtE fns cs N S b y = true → PE X y (tV P C W b)) (h : mRest .And p (mtE fns cs N S b) xs = true) : PE X (.BoolOp .And (x :: xs) p) (tV P C W (.and a b)) := by
  have key : ∀ y r, PE X (.BoolOp .And (y :: r) p) (tV P C W b) → PE X (.BoolOp .And (x :: y :: r) p) (tV P C W (.and a b)) := fun y r hb =>
    PE.mono (pe_and ha hb) fun σ H Q ⟨DF, G, ρ, p, e, F, ev, k, kx⟩ => ⟨DF, G, ρ, _, e, F, ev, fun v H' G' d hd F' g r => (by
      replace hd := asB_inv hd; obtain ⟨c, rfl, hd⟩ := hd
      cases r
      refine ⟨c, rfl, ?_⟩
      cases c with
      | true => rw [if_pos rfl] at hd ⊢; exact ⟨DF, G', ρ, p, e, F', hd, KV.step k g, KX.step kx g⟩
      | false => rw [if_neg (by decide)] at hd ⊢; exact (KV.step k g).here F' hd (.bl _)), kx⟩
  unfold mRest at h
  split at h
  · exact key _ _ (pe_one (hb _ h))
  · exact key _ _ (hb _ h)
  · cases h
theorem e_or {a b : CE} {x : Expr} {xs : List Expr} {p : Pos} (ha : PE X x (tV P C W a)) (hb : ∀ y, mtE fns cs N S b y = true → PE X y (tV P C W b)) (h : mRest .Or p (mtE fns cs N S b) xs = true) : PE X (.BoolOp .Or (x :: xs) p) (tV P C W (.or a b)) := by
  have key : ∀ y r, PE X (.BoolOp .Or (y :: r) p) (tV P C W b) → PE X (.BoolOp .Or (x :: y :: r) p) (tV P C W (.or a b)) := fun y r hb =>
    PE.mono (pe_or ha hb) fun σ H Q ⟨DF, G, ρ, p, e, F, ev, k, kx⟩ => ⟨DF, G, ρ, _, e, F, ev, fun v H' G' d hd F' g r => (by
      replace hd := asB_inv hd; obtain ⟨c, rfl, hd⟩ := hd
      cases r
      refine ⟨c, rfl, ?_⟩
      cases c with
      | false => rw [if_neg (by decide)] at hd ⊢; exact ⟨DF, G', ρ, p, e, F', hd, KV.step k g, KX.step kx g⟩
      | true => rw [if_pos rfl] at hd ⊢; exact (KV.step k g).here F' hd (.bl _)), kx⟩
  unfold mRest at h
  split at h
  · exact key _ _ (pe_one (hb _ h))
  · exact key _ _ (hb _ h)
  · cases h
theorem PW.mono {e : Expr} {t t' : TT} (h : PW X e t) (m : ∀ σ H Q, t' σ H Q → t σ H Q) : PW X e t' := ⟨fun wh pins s σ H Q I q => h.run wh pins s σ H Q I (m σ H Q q)⟩
theorem e_andT {a b : CE} {x : Expr} {xs : List Expr} {p : Pos} (ha : PT X x (tT P C W a)) (hb : ∀ y, mtE fns cs N S b y = true → PT X y (tT P C W b) ∧ ∀ ys q, y = .BoolOp .And ys q → PW X y (tT P C W b)) (h : mRest .And p (mtE fns cs N S b) xs = true) : PW X (.BoolOp .And (x :: xs) p) (tT P C W (.and a b)) := by
  have key : ∀ y r, PW X (.BoolOp .And (y :: r) p) (tT P C W b) → PW X (.BoolOp .And (x :: y :: r) p) (tT P C W (.and a b)) := fun y r hb =>
    PW.mono (pw_and ha hb) fun σ H Q ⟨DF, G, ρ, p, e, F, ev, k, kx⟩ => by
      rw [evE] at ev
      refine ⟨DF, G, ρ, _, e, F, ev, fun c H' G' hd F' g => ?_, kx⟩
      cases c with
      | true => rw [if_pos rfl] at hd ⊢; exact ⟨DF, G', ρ, p, e, F', hd, fun b H2 G2 h2 F2 g2 => k b H2 G2 h2 F2 (g.trans g2), KX.step kx g⟩
      | false => rw [if_neg (by decide)] at hd ⊢; exact k _ _ _ hd F' g
  unfold mRest at h
  split at h
  · exact key _ _ (pw_and1 (hb _ h).1)
  · exact key _ _ ((hb _ h).2 _ _ rfl)
  · cases h
theorem e_orT {a b : CE} {x : Expr} {xs : List Expr} {p : Pos} (ha : PT X x (tT P C W a)) (hb : ∀ y, mtE fns cs N S b y = true → PT X y (tT P C W b) ∧ ∀ ys q, y = .BoolOp .Or ys q → PW X y (tT P C W b)) (h : mRest .Or p (mtE fns cs N S b) xs = true) : PW X (.BoolOp .Or (x :: xs) p) (tT P C W (.or a b)) := by
  have key : ∀ y r, PW X (.BoolOp .Or (y :: r) p) (tT P C W b) → PW X (.BoolOp .Or (x :: y :: r) p) (tT P C W (.or a b)) := fun y r hb =>
    PW.mono (pw_or ha hb) fun σ H Q ⟨DF, G, ρ, p, e, F, ev, k, kx⟩ => by
      rw [evE] at ev
      refine ⟨DF, G, ρ, _, e, F, ev, fun c H' G' hd F' g => ?_, kx⟩
      cases c with
      | false => rw [if_neg (by decide)] at hd ⊢; exact ⟨DF, G', ρ, p, e, F', hd, fun b H2 G2 h2 F2 g2 => k b H2 G2 h2 F2 (g.trans g2), KX.step kx g⟩
      | true => rw [if_pos rfl] at hd ⊢; exact k _ _ _ hd F' g
  unfold mRest at h
  split at h
  · exact key _ _ (pw_or1 (hb _ h).1)
  · exact key _ _ ((hb _ h).2 _ _ rfl)
  · cases h
theorem e_not {a : CE} {x : Expr} {p : Pos} (ha : PE X x (tV P C W a)) : PE X (.UnaryOp .Not x p) (tV P C W (.not a)) :=
  PE.mono (pe_not ha) fun σ H Q ⟨DF, G, ρ, p, e, F, ev, k, kx⟩ => ⟨DF, G, ρ, _, e, F, ev, fun v H' G' d hd F' g r => (by
    replace hd := asB_inv hd; obtain ⟨c, rfl, hd⟩ := hd
    cases r
    exact ⟨c, rfl, (KV.step k g).here F' hd (.bl _)⟩), kx⟩
theorem e_notT {a : CE} {x : Expr} {p : Pos} (ha : PT X x (tT P C W a)) : PT X (.UnaryOp .Not x p) (tT P C W (.not a)) :=
  PT.mono (pt_not ha) fun σ H Q ⟨DF, G, ρ, p, e, F, ev, k, kx⟩ => by
    rw [evE] at ev
    exact ⟨DF, G, ρ, _, e, F, ev, fun c H' G' hd F' g => k _ _ _ hd F' g, kx⟩
theorem e_ife {t a b : CE} {x y z : Expr} {p : Pos} (ht : PT X x (tT P C W t)) (ha : PE X y (tV P C W a)) (hb : PE X z (tV P C W b)) : PE X (.IfExp x y z p) (tV P C W (.ife t a b)) :=
  PE.mono (pe_ifExp ht ha hb) fun σ H Q ⟨DF, G, ρ, p, e, F, ev, k, kx⟩ => by
    rw [evE] at ev
    refine ⟨DF, G, ρ, _, e, F, ev, fun c H' G' hd F' g => ?_, kx⟩
    cases c with
    | true => rw [if_pos rfl] at hd ⊢; exact ⟨DF, G', ρ, p, e, F', hd, KV.step k g, KX.step kx g⟩
    | false => rw [if_neg (by decide)] at hd ⊢; exact ⟨DF, G', ρ, p, e, F', hd, KV.step k g, KX.step kx g⟩
theorem small_line {n : Nat} (h : n ≤ 1000) : n ≤ sizeLine := by rw [sizeLine_eq]; omega
theorem e_slp (hX : Cxf P C fns cs N X S W) {a : CE} {x u : Expr} {k : Int} {p q : Pos} (ha : PE X x (tV P C W a)) (hu : stpB k u = true) (k0 : k ≠ 0) (k1 : k ≠ 1) : PE X (.Subscript x (.Slice none none (some u) p) q) (tV P C W (.slp a k)) := by
  have key : ∀ {tst : TO}, PO X (some u) tst → (∀ σ H, tst σ H fun o H' => o = some k ∧ H' = H) → PE X (.Subscript x (.Slice none none (some u) p) q) (tV P C W (.slp a k)) := fun hst hv => by
    refine PE.mono (pe_stepN ha hst hv k0 k1) fun σ H Q ⟨DF, G, ρ, p, e, F, ev, kk, kx⟩ => ?_
    rw [evE] at ev
    refine ⟨DF, G, ρ, _, e, F, ev, fun v H' G' d hd F' g r => ?_, kx⟩
    replace hd := asT_inv hd
    obtain ⟨xs, rfl, h1, h2⟩ := hd
    cases r with
    | tup e rs =>
      have hl := (rs.step k).length
      refine ⟨_, _, rfl, by rw [hX.o.K]; exact F'.sub.sqT e.sq, by rw [hl]; exact Nat.le_trans h1 line_lim, KV.newT (KV.step kk g) F' h2 (rs.step k)⟩
  rcases stpB_inv hu with ⟨a, b, rfl⟩ | ⟨j, a, b, c, rfl, rfl⟩
  · exact key (po_some pe_int) fun σ H => ⟨k, rfl, rfl, rfl⟩
  · exact key (po_some (pe_un un_neg pe_int)) fun σ H => ⟨j, rfl, -j, rfl, rfl, rfl⟩
theorem e_tup {es : CEs} {xs : List Expr} {c : Nat} {p : Pos} (hz : cesLen es ≤ 1000) (h : PA X xs (tEs P C W es)) : PE X (.Tuple xs c p) (tV P C W (.tup es)) :=
  PE.mono (pe_tupN h) fun σ H Q ⟨DF, G, ρ, p, e, F, ev, k, kx⟩ => ⟨DF, G, ρ, _, e, F, ev, fun vs H' G' ds hd F' g r hl => ⟨by rw [r.length, hl]; exact small_line hz, KV.newT (KV.step k g) F' hd r⟩, kx⟩
theorem e_lst {es : CEs} {xs : List Expr} {p : Pos} (hz : cesLen es ≤ 1000) (h : PA X xs (tEs P C W es)) : PE X (.List xs p) (tF P C W (.lst es)) :=
  PE.mono (pe_lst h) fun σ H Q ⟨DF, G, ρ, p, e, F, ev, k, kx⟩ => ⟨DF, G, ρ, _, e, F, ev, fun vs H' G' ds hd F' g r hl => ⟨by rw [r.length, hl]; exact small_line hz, fun a ha => (KF.step k g).new F' hd r ha⟩, kx⟩
theorem e_idx (hX : Cxf P C fns cs N X S W) {a i : CE} {x y : Expr} {p : Pos} (ha : PE X x (tB P C W a)) (hi : PE X y (tB P C W i)) (hy : fineX y = true) : PE X (.Subscript x y p) (tV P C W (.idx a i)) :=
  PE.mono (pe_ix (ix_ok hX.o) ha hi (plainIx hy)) fun σ H Q ⟨DF, G, ρ, p, e, F, ev, k, kx⟩ => tOp_of (g := ixD) F ev k kx
/-- a slice's part -/
def tP (P : Px) (C : Orc) (W : WX) (c : CE) : TO := fun σ H Q => ∃ DF G ρ p e, FrD P DF σ ρ G H ∧ evE C c ρ (fun l => asP (isNo c) l p) e ∧ (∀ o H' G', p o → FrD P DF σ ρ G' H' → Gr P.T DF G H G' H' → Q o H') ∧ KX P W DF σ ρ G H e
theorem PO.mono {e : Option Expr} {t t' : TO} (h : PO X e t) (m : ∀ σ H Q, t' σ H Q → t σ H Q) : PO X e t' := ⟨fun pins s σ H Q I q => h.run pins s σ H Q I (m σ H Q q)⟩
theorem isNo_inv {c : CE} (h : isNo c = true) : c = .cst .none := by
  unfold isNo at h; split at h
  · rfl
  · cases h
theorem po_ok {c : CE} {o : Option Expr} (h : mPart (isNo c) (mtE fns cs N S c) o = true) (hc : ∀ e, mtE fns cs N S c e = true → PE X e (tV P C W c)) : PO X o (tP P C W c) := by
  cases o with
  | none =>
    obtain rfl := isNo_inv (show isNo c = true from h)
    exact PO.mono po_none fun σ H Q ⟨DF, G, ρ, p, e, F, ev, k, kx⟩ => k none H G ev F (Gr.refl _ _ _ _)
  | some e =>
    obtain ⟨hn, h⟩ := both (show (!isNo c && mtE fns cs N S c e) = true from h)
    have hn : isNo c = false := by simpa using hn
    refine PO.mono (po_some (hc e h)) fun σ H Q ⟨DF, G, ρ, p, e, F, ev, k, kx⟩ => ⟨DF, G, ρ, _, e, F, ev, fun v H' G' d hd F' g r => ?_, kx⟩
    rw [hn] at hd
    cases d <;> first | exact (show False from hd).elim | skip
    cases r
    exact ⟨_, rfl, k _ _ _ hd F' g⟩
theorem e_sl (hX : Cxf P C fns cs N X S W) {a lo hi : CE} {x : Expr} {l u : Option Expr} {p q : Pos} (ha : PE X x (tB P C W a)) (hl : PO X l (tP P C W lo)) (hu : PO X u (tP P C W hi)) : PE X (.Subscript x (.Slice l u none p) q) (tV P C W (.sl a lo hi)) :=
  PE.mono (pe_slice (sl_ok hX.o) ha hl hu) fun σ H Q ⟨DF, G, ρ, p, e, F, ev, k, kx⟩ => by
    rw [evE] at ev
    exact ⟨DF, G, ρ, _, e, F, ev, fun v H1 G1 d hd F1 g1 r1 => ⟨DF, G1, ρ, _, e, F1, hd, fun lo H2 G2 h2 F2 g2 => ⟨DF, G2, ρ, _, e, F2, h2, fun hi H3 G3 h3 F3 g3 =>
      ⟨DF, G3, σ, ρ, p, d, F3, r1.keep (g2.trans g3), h3, KV.step k (g1.trans (g2.trans g3))⟩, KX.step kx (g1.trans g2)⟩, KX.step kx g1⟩, kx⟩
/-! ### argument lists -/
theorem a_nil : PA X [] (tEs P C W .nil) := PA.mono pa_nil fun σ H Q ⟨DF, G, ρ, p, e, F, ev, k, kx⟩ => k _ _ _ _ ev F (Gr.refl _ _ _ _) .nil rfl
theorem a_cons {a : CE} {es : CEs} {x : Expr} {xs : List Expr} (h : PE X x (tV P C W a)) (hs : PA X xs (tEs P C W es)) (hx : fineX x = true) : PA X (x :: xs) (tEs P C W (.cons a es)) :=
  PA.mono (pa_cons h hs (star_fine hx _ _)) fun σ H Q ⟨DF, G, ρ, p, e, F, ev, k, kx⟩ => ⟨DF, G, ρ, _, e, F, ev, fun v H1 G1 d hd F1 g1 r1 => ⟨DF, G1, ρ, _, e, F1, hd, fun vs H2 G2 ds hd2 F2 g2 rs hl =>
    k _ _ _ _ hd2 F2 (g1.trans g2) (.cons (r1.mono g2.sub) rs) (by rw [List.length_cons, hl]; rfl), KX.step kx g1⟩, kx⟩
theorem b_nil : PA X [] (tBs P C W .nil) := PA.mono pa_nil fun σ H Q ⟨DF, G, ρ, p, e, F, ev, k, kx⟩ => k _ _ _ _ ev F (Gr.refl _ _ _ _) .nil
theorem b_cons {a : CE} {es : CEs} {x : Expr} {xs : List Expr} (h : PE X x (tB P C W a)) (hs : PA X xs (tBs P C W es)) (hx : fineX x = true) : PA X (x :: xs) (tBs P C W (.cons a es)) :=
  PA.mono (pa_cons h hs (star_fine hx _ _)) fun σ H Q ⟨DF, G, ρ, p, e, F, ev, k, kx⟩ => ⟨DF, G, ρ, _, e, F, ev, fun v H1 G1 d hd F1 g1 r1 => ⟨DF, G1, ρ, _, e, F1, hd, fun vs H2 G2 ds hd2 F2 g2 rs =>
    k _ _ _ _ hd2 F2 (g1.trans g2) (.cons (r1.keep g2) rs), KX.step kx g1⟩, kx⟩
theorem r_nil : PA X [] (tAr P C W .nil) := PA.mono pa_nil fun σ H Q ⟨DF, G, ρ, p, e, F, ev, k, kx⟩ => k _ _ _ _ ev F (Gr.refl _ _ _ _) .nil
theorem RA.mono {K : PySem.W.Frag} {DF : DFt} {G G' : Hp} {v : V} {s : Slot} (r : RA K DF G v s) (h : Sub G G') : RA K DF G' v s := by
  cases s with
  | v d => exact Rp.mono h r
  | st => exact r
  | _ => exact r.elim
theorem RAs.mono {K : PySem.W.Frag} {DF : DFt} {G G' : Hp} (h : Sub G G') : ∀ {vs : List V} {ss : List Slot}, RAs K DF G vs ss → RAs K DF G' vs ss
  | _, _, .nil => .nil
  | _, _, .cons a b => .cons (a.mono h) (RAs.mono h b)
theorem r_cons {a : CE} {es : CEs} {x : Expr} {xs : List Expr} (ns : ∀ i, a ≠ .stn i) (h : PE X x (tV P C W a)) (hs : PA X xs (tAr P C W es)) (hx : fineX x = true) : PA X (x :: xs) (tAr P C W (.cons a es)) :=
  PA.mono (pa_cons h hs (star_fine hx _ _)) fun σ H Q ⟨DF, G, ρ, p, e, F, ev, k, kx⟩ => by
    have ev' : evE C a ρ (fun x => evAr C es ρ (fun xs => p (.v x :: xs)) e) e := by
      cases a <;> first | exact ev | exact absurd rfl (ns _)
    exact ⟨DF, G, ρ, _, e, F, ev', fun v H1 G1 d hd F1 g1 r1 => ⟨DF, G1, ρ, _, e, F1, hd, fun vs H2 G2 ds hd2 F2 g2 rs =>
      k _ _ _ _ hd2 F2 (g1.trans g2) (.cons (show RA P.K DF G2 v (.v d) from r1.mono g2.sub) rs), KX.step kx g1⟩, kx⟩
theorem r_cons_st (hX : Cxf P C fns cs N X S W) {i : Nat} {es : CEs} {x : Expr} {xs : List Expr} (h : mNm N S i x = true) (hs : PA X xs (tAr P C W es)) (hx : fineX x = true) : PA X (x :: xs) (tAr P C W (.cons (.stn i) es)) :=
  PA.mono (pa_cons (e_var hX h) hs (star_fine hx _ _)) fun σ H Q ⟨DF, G, ρ, p, e, F, ev, k, kx⟩ => by
    have ev' : slotS ρ[i]? fun s => evAr C es ρ (fun xs => p (s :: xs)) e := by rw [evAr] at ev; exact ev
    obtain ⟨h1, h2⟩ := slotS_inv ev'
    obtain ⟨q, h3, h4⟩ := F.slots i _ h1
    exact ⟨_, h3, DF, G, ρ, _, e, F, h2, fun vs H2 G2 ds hd2 F2 g2 rs => k _ _ _ _ hd2 F2 g2 (.cons (show RA P.K DF G2 _ .st from ⟨q, rfl, h4⟩) rs), kx⟩
/-! ### calls -/
mutual
theorem Rp.less {K : PySem.W.Frag} {G : Hp} {a : Addr} {xs : List V} (h : G a = some (.lst xs)) : ∀ {v : V} {d : PyData}, Rp K G v d → noLst d = true → Rp K (fun b => if b = a then none else G b) v d
  | _, _, .non, _ => .non
  | _, _, .bl b, _ => .bl b
  | _, _, .int i, _ => .int i
  | _, _, .str x, _ => .str x
  | _, _, .lst _ _, n => by rw [noLst] at n; cases n
  | _, _, .tup (a := b) e r, n => .tup (by
      rcases e with ⟨o, e, hd⟩ | e
      · refine .inl ⟨o, ?_, hd⟩
        by_cases hb : b = a
        · subst hb; rw [h] at e; cases e
        · show (if b = a then none else G b) = _
          rw [if_neg hb]; exact e
      · exact .inr e) (Rps.less h r (by rw [noLst] at n; exact n))
  | _, _, .dct _ _ _ _, n => by rw [noLst] at n; cases n
theorem Rps.less {K : PySem.W.Frag} {G : Hp} {a : Addr} {xs : List V} (h : G a = some (.lst xs)) : ∀ {vs : List V} {ds : List PyData}, Rps K G vs ds → noLsts ds = true → Rps K (fun b => if b = a then none else G b) vs ds
  | _, _, .nil, _ => .nil
  | _, _, .cons r rs, n => by
    rw [noLsts, Bool.and_eq_true] at n
    exact .cons (Rp.less h r n.1) (Rps.less h rs n.2)
end
theorem e_call (hX : Cxf P C fns cs N X S W) {f : Nat} {es : CEs} {x : Str} {p q : Pos} {y : Expr} {ys : List Expr} (hf : fns[f]? = some x) (hg : glB S x = true) (h : PA X (y :: ys) (tAr P C W es)) (fy : ∀ e ∈ y :: ys, fineX e = true) :
    PE X (.Call (.Name x p) (y :: ys) [] q) (tV P C W (.call f es)) := by
  obtain ⟨k, fa, fd, ps, hF, hr, hm, hk, hb⟩ := hX.cal f x hf
  obtain ⟨g1, g2⟩ := hX.glo hg
  refine PE.mono (pe_callS hF hr g1 hm hk hb (fun σ => passAt hX.tk σ) h g2 (star_fine (fy _ List.mem_cons_self) _ _) (noplain fun e m => fy e (List.mem_cons_of_mem _ m))) fun σ H Q ⟨DF, G, ρ, p, e, F, ev, k, kx⟩ => ?_
  rw [evE] at ev
  exact ⟨DF, G, ρ, _, e, F, ev, fun vs H1 G1 sl hs F1 g1 ra => ⟨DF, G1, sl, _, _, F1.sub, F1.dr, F1.tab, ra, hs, fun v H' G' d sl' hp g s d' r => k v H' G' d hp (F1.grow g s d') (g1.trans g) r,
    fun x H' G' sl' cls dx he g s d' ex => kx x H' G' cls dx he (F1.grow g s d') (g1.trans g) ex⟩, kx⟩
section
variable {DF : DFt} {σ : L2.St} {ρ : Env} {G H G' H' : Hp}
/-- a slot is seen otherwise -/
theorem FrD.reslot (F : FrD P DF σ ρ G H) {i : Nat} {s : Slot} (ok : SlotOk P DF G H σ[i]? s) (no : ∀ d, s ≠ .own d) : FrD P DF σ (ρ.set i s) G H where
  len := by rw [List.length_set]; exact F.len
  sub := F.sub
  sub0 := F.sub0
  new := F.new
  keep0 := F.keep0
  df := F.df
  slots := fun j t e => by
    rw [get_set] at e
    split at e
    · rename_i h
      cases e
      rw [h.1]; exact ok
    · exact F.slots j t e
  own1 := fun j k d d' p h1 h2 h3 h4 => by
    rw [get_set] at h1 h2
    split at h1
    · cases h1; exact absurd rfl (no d)
    · split at h2
      · cases h2; exact absurd rfl (no d')
      · exact F.own1 j k d d' p h1 h2 h3 h4
  dr := F.dr
  live0 := F.live0
  tab := F.tab
/-- a list of ours is from now on a value -/
theorem FrD.frzX (F : FrD P DF σ ρ G H) {i : Nat} {d : PyData} (e : ρ[i]? = some (.own d)) : ∃ p xs, σ[i]? = some (some (.ref p)) ∧ G p = none ∧ H p = some (.lst xs) ∧ NotIn p DF ∧ FrD P DF σ (ρ.set i (.v d)) (upd G p (.lst xs)) H := by
  obtain ⟨p, h1, h2, h3, h4, h5⟩ := F.slots i _ e
  have hi : i < ρ.length := (List.getElem?_eq_some_iff.mp e).1
  cases d with
  | list ds =>
    obtain ⟨xs, z, r⟩ := h5
    have F1 : FrD P DF σ (ρ.set i .un) G H := F.reslot trivial fun _ z => (nomatch z)
    have no : ∀ (j : Nat) d, (ρ.set i .un)[j]? = some (.own d) → σ[j]? ≠ some (some (.ref p)) := fun j d' q z => by
      rw [get_set] at q
      split at q
      · cases q
      · rename_i n
        exact n ⟨F.own1 j i d' _ p q e z h1, hi⟩
    have F2 := F1.ice z h2 h3 h4 no
    have F3 := F2.reslot (i := i) (s := .v (.list ds)) ⟨.ref p, h1, .lst upd_same (r.mono (Sub.upd h2))⟩ fun _ z => (nomatch z)
    rw [List.set_set] at F3
    exact ⟨p, xs, h1, h2, z, h4, F3⟩
  | _ => exact h5.elim
/-- a list of ours is from now on a value -/
theorem FrD.frz (F : FrD P DF σ ρ G H) {i : Nat} {d : PyData} (e : ρ[i]? = some (.own d)) : ∃ G', Sub G G' ∧ FrD P DF σ (ρ.set i (.v d)) G' H := by
  obtain ⟨p, xs, _, h, _, _, F'⟩ := F.frzX e
  exact ⟨_, Sub.upd h, F'⟩
end
/-- a call to which a list that a name alone holds is lent -/
theorem lend {DF : DFt} {σ : L2.St} {ρ : Env} {G H : Hp} {i : Nat} {d : PyData} (F : FrD P DF σ ρ G H) (h : ρ[i]? = some (.own d)) : ∃ p xs, G p = none ∧ H p = some (.lst xs) ∧ FrD P DF σ (ρ.set i (.v d)) (upd G p (.lst xs)) H ∧
    ∀ {G1 H1 : Hp}, FrD P DF σ (ρ.set i (.v d)) G1 H1 → Gr P.T DF (upd G p (.lst xs)) H G1 H1 → FrD P DF σ ρ (fun a => if a = p then none else G1 a) H1 ∧ Gr P.T DF G H (fun a => if a = p then none else G1 a) H1 := by
  obtain ⟨p, xs, h1, h2, h3, h4, F'⟩ := F.frzX h
  refine ⟨p, xs, h2, h3, F', fun {G1 H1} F1 g => ?_⟩
  have g' : Gr P.T DF G H (fun a => if a = p then none else G1 a) H1 := by
    refine ⟨fun a o e => ?_, g.keep, fun a o e => ?_, g.live, g.tab⟩
    · have ne : a ≠ p := fun z => by rw [z, h2] at e; cases e
      show (if a = p then none else G1 a) = some o
      rw [if_neg ne]
      exact g.sub a o (Sub.upd h2 a o e)
    · have e : (if a = p then none else G1 a) = some o := e
      by_cases ne : a = p
      · rw [if_pos ne] at e; cases e
      · rw [if_neg ne] at e
        rcases g.new a o e with z | z
        · rw [upd_ne ne] at z; exact .inl z
        · exact .inr z
  have less : ∀ a o, (if a = p then none else G1 a) = some o → G1 a = some o := fun a o e => by
    by_cases ne : a = p
    · rw [if_pos ne] at e; cases e
    · rw [if_neg ne] at e; exact e
  refine ⟨F.grow g' (fun a o e => F1.sub a o (less a o e)) ⟨fun a o e => F1.dr.1 a o (less a o e), ?_⟩, g'⟩
  have D := F1.dr.2
  cases hd : DF with
  | none => trivial
  | some w =>
    rw [hd] at D
    obtain ⟨d1, d2, d3, pos, cells, d4⟩ := D
    refine ⟨?_, ?_, d3, pos, cells, d4⟩
    · show (if w.1 = p then none else G1 w.1) = none
      split
      · rfl
      · exact d1
    · show (if w.2 = p then none else G1 w.2) = none
      split
      · rfl
      · exact d2
theorem e_cab {i f : Nat} {es : CEs} {e : Expr} (h : PE X e (tV P C W (.call f es))) : PE X e (tV P C W (.cab i f es)) :=
  PE.mono h fun σ H Q ⟨DF, G, ρ, p, e, F, ev, k, kx⟩ => by
    rw [evE] at ev
    obtain ⟨d, h1, h2⟩ := slotO_inv ev
    obtain ⟨a, xs, g0, e0, F1, back⟩ := lend F h1
    refine ⟨DF, _, _, fun r => noLst r = true ∧ p r, fun _ => False, F1, by rw [evE]; exact h2, fun v H' G' d' ⟨n, hd⟩ F2 g2 r => ?_, fun x H' G' cls dx z => z.elim⟩
    obtain ⟨F3, g3⟩ := back F2 g2
    have ea : G' a = some (.lst xs) := g2.sub _ _ upd_same
    exact k v H' _ d' hd F3 g3 (r.less ea n)
theorem p_of {q : Prim} {es : CEs} {xs : List Expr} (e : Expr) (h : PE X e (tCB (rP P q) (tBs P C W es))) : PE X e (tV P C W (.prim q es)) :=
  PE.mono h fun σ H Q ⟨DF, G, ρ, p, e, F, ev, k, kx⟩ => ⟨DF, G, ρ, _, e, F, ev, fun vs H1 G1 ds hs F1 g1 ra => ⟨DF, G1, σ, ρ, p, ds, F1, ra, hs, KV.step k g1⟩, kx⟩
theorem pF_of {q : Prim} {es : CEs} {xs : List Expr} (e : Expr) (h : PE X e (tCB (rPF P q) (tBs P C W es))) : PE X e (tF P C W (.prim q es)) :=
  PE.mono h fun σ H Q ⟨DF, G, ρ, p, e, F, ev, k, kx⟩ => ⟨DF, G, ρ, _, e, F, ev, fun vs H1 G1 ds hs F1 g1 ra => ⟨DF, G1, σ, ρ, p, ds, F1, ra, hs, KF.step k g1⟩, kx⟩
end
end Pv
set_option Elab.async false
set_option linter.all false
set_option maxRecDepth 100000
set_option maxHeartbeats 4000000
/-! Core 11: every expression means what its compact text says: the rest and the whole. Own work. -/
set_option autoImplicit false
namespace Pv
open PySem PySem.Spec L2

section
variable {P : Px} {C : Orc} {fns : List Str} {cs : List (Str × PyData)} {N : List Str} {X : Cx} {S : Scope} {W : WX}
/-- a new list by its prim -/
def frB : CE → Bool
  | .lst _ => true
  | .comp _ _ _ _ => true
  | .comp2 _ _ _ _ _ _ _ => true
  | .rng t _ => !t
  | .prim .lst _ => true
  | .prim .srt _ => true
  | _ => false
theorem e_prim (hX : Cxf P C fns cs N X S W) {q : Prim} {es : CEs} {x : Str} {p r : Pos} {y : Expr} {ys : List Expr} (hq : primN q = x) (hg : glB S x = true) (h : PA X (y :: ys) (tBs P C W es)) (fy : ∀ e ∈ y :: ys, fineX e = true) :
    (frB (.prim q es) = false → PE X (.Call (.Name x p) (y :: ys) [] r) (tV P C W (.prim q es))) ∧ (frB (.prim q es) = true → PE X (.Call (.Name x p) (y :: ys) [] r) (tF P C W (.prim q es))) := by
  obtain ⟨g1, g2⟩ := hX.glo hg
  have s1 := fun env => star_fine (fy _ List.mem_cons_self) ys env
  have s2 := fun pos env => noplain (pos := pos) (env := env) fun e m => fy e (List.mem_cons_of_mem _ m)
  subst hq
  have fr : ∀ b ∈ (["len", "range", "min", "max", "abs", "sorted", "tuple", "list", "int", "isinstance", "set", "all", "any", "sum", "bool", "str", "dict"] : List Str), X.mg b = none := hX.o.free
  cases q with
  | len => exact ⟨fun _ => p_of (xs := []) _ (pe_callB (prim_len hX.o) g1 (fr _ (by decide)) PySem.boot_len h (by decide) g2 (s1 _) (s2 _ _)), fun z => by cases z⟩
  | mn => exact ⟨fun _ => p_of (xs := []) _ (pe_callB (prim_mn hX.o) g1 (fr _ (by decide)) PyProof.Rows.boot_min h (by decide) g2 (s1 _) (s2 _ _)), fun z => by cases z⟩
  | mx => exact ⟨fun _ => p_of (xs := []) _ (pe_callB (prim_mx hX.o) g1 (fr _ (by decide)) PyProof.Rows.boot_max h (by decide) g2 (s1 _) (s2 _ _)), fun z => by cases z⟩
  | abs => exact ⟨fun _ => p_of (xs := []) _ (pe_callB (prim_abs hX.o) g1 (fr _ (by decide)) PyProof.Rows.boot_abs h (by decide) g2 (s1 _) (s2 _ _)), fun z => by cases z⟩
  | srt => exact ⟨fun z => (by cases z), fun _ => pF_of (xs := []) _ (pe_callB (prim_srt hX.o) g1 (fr _ (by decide)) PyProof.Rows.boot_sorted h (by decide) g2 (s1 _) (s2 _ _))⟩
  | tup => exact ⟨fun _ => p_of (xs := []) _ (pe_callTy (prim_tup hX.o) g1 (fr _ (by decide)) PyProof.Rows.boot_tuple h (by decide) g2 (s1 _) (s2 _ _)), fun z => by cases z⟩
  | lst => exact ⟨fun z => (by cases z), fun _ => pF_of (xs := []) _ (pe_callTy (prim_lst hX.o) g1 (fr _ (by decide)) PyProof.Rows.boot_list h (by decide) g2 (s1 _) (s2 _ _))⟩
  | int => exact ⟨fun _ => p_of (xs := []) _ (pe_callTy (prim_int hX.o) g1 (fr _ (by decide)) PyProof.Rows.boot_int h (by decide) g2 (s1 _) (s2 _ _)), fun z => by cases z⟩
  | all => exact ⟨fun _ => p_of (xs := []) _ (pe_callB (prim_all hX.o) g1 (fr _ (by decide)) PyProof.Rows.boot_all h (by decide) g2 (s1 _) (s2 _ _)), fun z => by cases z⟩
  | any => exact ⟨fun _ => p_of (xs := []) _ (pe_callB (prim_any hX.o) g1 (fr _ (by decide)) PyProof.Rows.boot_any h (by decide) g2 (s1 _) (s2 _ _)), fun z => by cases z⟩
  | sum => exact ⟨fun _ => p_of (xs := []) _ (pe_callB (prim_sum hX.o) g1 (fr _ (by decide)) PyProof.Rows.boot_sum h (by decide) g2 (s1 _) (s2 _ _)), fun z => by cases z⟩
  | dct => exact ⟨fun _ => p_of (xs := []) _ (pe_callTy (prim_dct hX.o) g1 (fr _ (by decide)) PyProof.Rows.boot_dict h (by decide) g2 (s1 _) (s2 _ _)), fun z => by cases z⟩
theorem isa_boot : ∀ t : Nat, t ≤ 5 → bootBuiltins (isaN t) = some (.type (isaT t)) ∧ (isaN t) ∈ (["len", "range", "min", "max", "abs", "sorted", "tuple", "list", "int", "isinstance", "set", "all", "any", "sum", "bool", "str", "dict"] : List Str) ∧ isaN t ≠ "__name__"
  | 0, _ => ⟨PyProof.Rows.boot_tuple, by decide, by decide⟩
  | 1, _ => ⟨PyProof.Rows.boot_int, by decide, by decide⟩
  | 2, _ => ⟨PyProof.Rows.boot_bool, by decide, by decide⟩
  | 3, _ => ⟨PyProof.Rows.boot_str, by decide, by decide⟩
  | 4, _ => ⟨PyProof.Rows.boot_list, by decide, by decide⟩
  | 5, _ => ⟨PyProof.Rows.boot_dict, by decide, by decide⟩
theorem e_isa (hX : Cxf P C fns cs N X S W) {t : Nat} {a : CE} {y : Expr} {p q r : Pos} (ht : t ≤ 5) (hg : glB S "isinstance" = true) (hg2 : glB S (isaN t) = true) (h : PE X y (tV P C W a)) (fy : fineX y = true) :
    PE X (.Call (.Name "isinstance" p) [y, .Name (isaN t) q] [] r) (tV P C W (.isa t a)) := by
  obtain ⟨b1, b2, b3⟩ := isa_boot t ht
  obtain ⟨g1, g2⟩ := hX.glo hg
  obtain ⟨g3, g4⟩ := hX.glo hg2
  have pa := pa_cons h (pa_cons (pe_bltn (pos := q) (v := .ty (isaT t)) g3 (hX.o.free _ b2) b1 rfl b3 g4) pa_nil) (star_fine fy _ _)
  refine PE.mono (pe_callB (isa_ok hX.o t ht) g1 (hX.o.free _ (by decide)) PyProof.Rows.boot_isinstance pa (by decide) (by decide) (star_fine fy _ _) rfl) fun σ H Q ⟨DF, G, ρ, p, e, F, ev, k, kx⟩ => ?_
  rw [evE] at ev
  exact ⟨DF, G, ρ, _, e, F, ev, fun v H1 G1 d hd F1 g1 r1 => ⟨DF, G1, σ, ρ, p, d, v, F1, .inl r1, rfl, hd, KV.step k g1⟩, kx⟩
theorem e_lenset (hX : Cxf P C fns cs N X S W) {a : CE} {z : Expr} {p q r t : Pos} (hg : glB S "len" = true) (hg2 : glB S "set" = true) (h : PE X z (tB P C W a)) (fz : fineX z = true) :
    PE X (.Call (.Name "len" p) [.Call (.Name "set" q) [z] [] r] [] t) (tV P C W (.lenset a)) := by
  refine PE.mono (pe_lenset hX.o (hX.glo hg).1 (hX.glo hg2).1 h (star_fine fz _ _)) fun σ H Q ⟨DF, G, ρ, p, e, F, ev, k, kx⟩ => ?_
  rw [evE] at ev
  refine ⟨DF, G, ρ, _, e, F, ev, fun v H1 G1 d hd F1 g1 r1 => ?_, kx⟩
  replace hd := asL_inv hd
  obtain ⟨xs, rfl, h1, h2, h3⟩ := hd
  exact ⟨DF, G1, σ, ρ, p, xs, F1, r1, h1, h2, h3, KV.step k g1⟩
theorem rg_rel {K : PySem.W.Frag} {G : Hp} (n : Int) : Rps K G (rgV 0 n) (range 0 n.toNat) := by
  have key : ∀ l : List Nat, Rps K G (l.map fun (i : Nat) => V.int (0 + (i : Int))) (l.map fun (k : Nat) => PyData.int (0 + (k : Int))) := by
    intro l
    induction l with
    | nil => exact .nil
    | cons a l ih => exact .cons (.int _) ih
  unfold rgV range
  rw [Int.sub_zero]
  exact key _
theorem rgOk_lim {n : Int} (h : -LIM ≤ n ∧ n ≤ LIM) : RgOk 0 n := by
  obtain ⟨h1, h2⟩ := h
  have : (LIM : Int) = 1000000 := rfl
  exact ⟨by omega, by omega, by omega, by omega, by omega⟩
theorem e_rngT (hX : Cxf P C fns cs N X S W) {a : CE} {z : Expr} {p q r t : Pos} (hg : glB S "tuple" = true) (hg2 : glB S "range" = true) (h : PE X z (tV P C W a)) (fz : fineX z = true) :
    PE X (.Call (.Name "tuple" p) [.Call (.Name "range" q) [z] [] r] [] t) (tV P C W (.rng true a)) := by
  refine PE.mono (pe_tupRgN hX.o.calm (hX.glo hg).1 (hX.o.free _ (by decide)) (prg_1 (hX.glo hg2).1 (hX.o.free _ (by decide)) h (star_fine fz _ _)) rfl) fun σ H Q ⟨DF, G, ρ, p, e, F, ev, k, kx⟩ => ?_
  rw [evE] at ev
  refine ⟨DF, G, ρ, _, e, F, ev, fun v H1 G1 d hd F1 g1 r1 => ?_, kx⟩
  replace hd := asI_inv hd
  obtain ⟨n, rfl, h1, h2⟩ := hd
  cases r1
  exact ⟨n, rfl, rgOk_lim h1, KV.newT (KV.step k g1) F1 h2 (rg_rel n)⟩
theorem e_rngL (hX : Cxf P C fns cs N X S W) {a : CE} {z : Expr} {p q r t : Pos} (hg : glB S "list" = true) (hg2 : glB S "range" = true) (h : PE X z (tV P C W a)) (fz : fineX z = true) :
    PE X (.Call (.Name "list" p) [.Call (.Name "range" q) [z] [] r] [] t) (tF P C W (.rng false a)) := by
  refine PE.mono (pe_listRg hX.o.calm (hX.glo hg).1 (hX.o.free _ (by decide)) (prg_1 (hX.glo hg2).1 (hX.o.free _ (by decide)) h (star_fine fz _ _))) fun σ H Q ⟨DF, G, ρ, p, e, F, ev, k, kx⟩ => ?_
  rw [evE] at ev
  refine ⟨DF, G, ρ, _, e, F, ev, fun v H1 G1 d hd F1 g1 r1 => ?_, kx⟩
  replace hd := asI_inv hd
  obtain ⟨n, rfl, h1, h2⟩ := hd
  cases r1
  exact ⟨n, rfl, rgOk_lim h1, fun a ha => (KF.step k g1).new F1 h2 (rg_rel n) ha⟩
/-! ### iterables -/
theorem PI.mono {tg e : Expr} {t t' : TI} (h : PI X tg e t) (m : ∀ σ H Q, t' σ H Q → t σ H Q) : PI X tg e t' := ⟨fun pins s σ H Q I q => h.run pins s σ H Q I (m σ H Q q)⟩
theorem i_rng (hX : Cxf P C fns cs N X S W) {b : Bool} {a : CE} {tg z : Expr} {p r : Pos} (hg : glB S "range" = true) (h : PE X z (tV P C W a)) (fz : fineX z = true) : PI X tg (.Call (.Name "range" p) [z] [] r) (tI P C W b (.rng a)) := by
  refine PI.mono (pi_range1 (hX.glo hg).1 (hX.o.free _ (by decide)) (pa_cons h pa_nil (star_fine fz _ _)) (star_fine fz _ _)) fun σ H R ⟨DF, G, ρ, p, e, F, ev, k, kx⟩ => ?_
  rw [evI] at ev
  refine ⟨DF, G, ρ, _, e, F, ev, fun v H1 G1 d hd F1 g1 r1 => ?_, kx⟩
  replace hd := asI_inv hd
  obtain ⟨n, rfl, ⟨h1, h1'⟩, h2⟩ := hd
  cases r1
  have : (LIM : Int) = 1000000 := rfl
  exact ⟨n, rfl, by omega, by omega, k _ _ _ _ h2 F1 g1 (.r (by omega))⟩
theorem i_rng2 (hX : Cxf P C fns cs N X S W) {b : Bool} {a c : CE} {tg z u : Expr} {p r : Pos} (hg : glB S "range" = true) (h : PE X z (tV P C W a)) (fz : fineX z = true) (h' : PE X u (tV P C W c)) (fu : fineX u = true) :
    PI X tg (.Call (.Name "range" p) [z, u] [] r) (tI P C W b (.rng2 a c)) := by
  refine PI.mono (pi_range2 (hX.glo hg).1 (hX.o.free _ (by decide)) (pa_cons h (pa_cons h' pa_nil (star_fine fu _ _)) (star_fine fz _ _)) (by rw [star_fine fz, star_fine fu]; rfl) (by rw [star_fine fu]; rfl)) fun σ H R ⟨DF, G, ρ, p, e, F, ev, k, kx⟩ => ?_
  rw [evI] at ev
  refine ⟨DF, G, ρ, _, e, F, ev, fun v H1 G1 d hd F1 g1 r1 => ⟨DF, G1, ρ, _, e, F1, hd, fun w H2 G2 d2 hd2 F2 g2 r2 => ?_, KX.step kx g1⟩, kx⟩
  replace hd2 := asI_inv hd2
  obtain ⟨n, rfl, hd2⟩ := hd2
  replace hd2 := asI_inv hd2
  obtain ⟨m, rfl, ⟨h1, h2, h3, h4⟩, h5⟩ := hd2
  cases r1
  cases r2
  have : (LIM : Int) = 1000000 := rfl
  exact ⟨n, m, rfl, ⟨by omega, by omega, by omega, by omega⟩, k _ _ _ _ h5 F2 (g1.trans g2) (.r (by omega))⟩
/-! ### comprehensions -/
theorem own_of : ∀ {is : List Nat}, (∀ i ∈ is, ∃ x, N[i]? = some x) → (ownOf N is).map (·.2) = is
  | [], _ => rfl
  | i :: is, h => by
    obtain ⟨x, hx⟩ := h i List.mem_cons_self
    have ih := own_of fun j m => h j (List.mem_cons_of_mem _ m)
    unfold ownOf at ih ⊢
    rw [List.filterMap_cons]
    simp only [hx, Option.map_some]
    rw [List.map_cons, ih]
theorem tgB_ix {raw : Scope} {tg : Tg} {e : Expr} (h : tgB N S raw tg e = true) : ∀ i ∈ tgs tg, ∃ x, N[i]? = some x := by
  unfold tgB at h
  split at h
  · intro i m
    obtain rfl : i = _ := by simpa using m
    exact ⟨_, (stoB_inv h).1⟩
  · rename_i is es _ _
    have key : ∀ (is : List Nat) (es : List Expr), tgB.tgL N S raw is es = true → ∀ i ∈ is, ∃ x, N[i]? = some x := by
      intro is
      induction is with
      | nil => intro es h i m; cases m
      | cons i is ih =>
        intro es h j m
        cases es with
        | nil => cases h
        | cons e es =>
          unfold tgB.tgL at h
          split at h
          · rename_i h0 h1; cases h0
          · rename_i i' is' x p es' h0 h1
            cases h0; cases h1
            obtain ⟨h2, h3⟩ := both h
            rcases List.mem_cons.mp m with rfl | m
            · exact ⟨_, (stoB_inv h2).1⟩
            · exact ih _ h3 j m
          · cases h
    exact key is es h
  · cases h
theorem PTs.mono {ifs : List Expr} {t t' : TT} (h : PTs X ifs t) (m : ∀ σ H Q, t' σ H Q → t σ H Q) : PTs X ifs t' := ⟨fun pins s σ H Q I q => h.run pins s σ H Q I (m σ H Q q)⟩
theorem isYes_inv {c : CE} (h : isYes c = true) : c = .cst (.bool true) := by
  unfold isYes at h; split at h
  · rfl
  · cases h
theorem ifs_ok {t : CE} {ifs : List Expr} {f : Expr → Bool} (h : mIfs (isYes t) f ifs = true) (ht : ∀ e, f e = true → PT X e (tT P C W t)) : PTs X ifs (tT P C W t) := by
  unfold mIfs at h
  split at h
  · obtain rfl := isYes_inv h
    exact PTs.mono pts_nil fun σ H Q ⟨DF, G, ρ, p, e, F, ev, k, kx⟩ => k true H G ev F (Gr.refl _ _ _ _)
  · exact pts_one (ht _ h)
  · cases h
theorem celB_fn {raw : Scope} (s : Shared) (H : Hp) (D : Addr) (cl : List (Str × Addr)) (fp : List Addr) : ∀ x, celB raw x = true → (X.blk s H raw (compEnvC raw cl D X.env) fp).fn x = true := fun x h => by
  unfold celB at h
  split at h
  · rename_i e
    show (raw.names.lookup x == some .cell) = true
    rw [e]; rfl
  · cases h
theorem e_comp (hX : Cxf P C fns cs N X S W) {elt t : CE} {tg : Tg} {it : CI} {x tg' it' : Expr} {ifs : List Expr} {sc : Scope} {p : Pos} (hb : blkC N S sc (ownOf N (tgs tg)) = true) (hg : tgB N (relS sc S) sc tg tg' = true)
    (hi : PI X tg' it' (tI P C W true it)) (fi : fineX it' = true)
    (he : ∀ X', Cxf P C fns cs N X' (relS sc S) WF → PE X' x (tV P C WF elt)) (ht : ∀ X', Cxf P C fns cs N X' (relS sc S) WF → PTs X' ifs (tT P C WF t)) : PE X (.ListComp x [⟨tg', it', ifs, 0⟩] sc p) (tF P C W (.comp elt tg it t)) := by
  have ok : BlkOk X.N X.env.scope sc (ownOf N (tgs tg)) := by rw [hX.o.hN, hX.o.sc]; exact blkOk_by hb
  have bx := fun s H D cl fp => hX.blk s H sc D cl fp
  exact PE.mono (pe_lc hX.o.calm hX.o.nd hi ok (fun s H D cl fp => pg_ok (bx s H D cl fp) (celB_fn s H D cl fp) hg) (fun s H D cl fp => ht _ (bx s H D cl fp)) (fun s H D cl fp => he _ (bx s H D cl fp)) (nofold fi _))
    fun σ H Q h => lc_ok (own_of (tgB_ix hg)) σ H Q h
theorem e_comp2 (hX : Cxf P C fns cs N X S W) {elt t t1 : CE} {tg tg1 : Tg} {it it1 : CI} {x tg' it' tg1' it1' : Expr} {ifs ifs1 : List Expr} {sc : Scope} {p : Pos} (hb : blkC N S sc (ownOf N (tgs tg ++ tgs tg1)) = true) (hg : tgB N (relS sc S) sc tg tg' = true)
    (hg1 : tgB N (relS sc S) sc tg1 tg1' = true) (hi : PI X tg' it' (tI P C W true it)) (fi : fineX it' = true) (fi1 : fineX it1' = true) (hi1 : ∀ X', Cxf P C fns cs N X' (relS sc S) WF → PI X' tg1' it1' (tI P C WF false it1))
    (he : ∀ X', Cxf P C fns cs N X' (relS sc S) WF → PE X' x (tV P C WF elt)) (ht : ∀ X', Cxf P C fns cs N X' (relS sc S) WF → PTs X' ifs (tT P C WF t)) (ht1 : ∀ X', Cxf P C fns cs N X' (relS sc S) WF → PTs X' ifs1 (tT P C WF t1)) :
    PE X (.ListComp x [⟨tg', it', ifs, 0⟩, ⟨tg1', it1', ifs1, 0⟩] sc p) (tF P C W (.comp2 elt tg it t tg1 it1 t1)) := by
  have ok : BlkOk X.N X.env.scope sc (ownOf N (tgs tg ++ tgs tg1)) := by rw [hX.o.hN, hX.o.sc]; exact blkOk_by hb
  have bx := fun s H D cl fp => hX.blk s H sc D cl fp
  have ho : (ownOf N (tgs tg ++ tgs tg1)).map (·.2) = tgs tg ++ tgs tg1 := own_of fun i m => by
    rcases List.mem_append.mp m with m | m
    · exact tgB_ix hg i m
    · exact tgB_ix hg1 i m
  exact PE.mono (pe_lc2 (vs1 := tgs tg1) hX.o.calm hX.o.nd hi ok (fun i m => by rw [ho]; exact List.mem_append_right _ m) (fun s H D cl fp => pg_ok (bx s H D cl fp) (celB_fn s H D cl fp) hg) (fun s H D cl fp => ht _ (bx s H D cl fp))
    (fun s H D cl fp => hi1 _ (bx s H D cl fp)) (fun s H D cl fp => pg_ok (bx s H D cl fp) (celB_fn s H D cl fp) hg1) (fun s H D cl fp => ht1 _ (bx s H D cl fp)) (fun s H D cl fp => he _ (bx s H D cl fp)) (nofold fi _) (nofold fi1))
    fun σ H Q h => lc2_ok ho rfl σ H Q h
/-! ### a new list is a list -/
theorem fr_list {c : CE} (h : frB c = true) (ρ : Env) (p : PyData → Prop) (e : Ex → Prop) (ev : evE C c ρ p e) : evE C c ρ (fun d => asL d fun xs => p (.list xs)) e := by
  cases c with
  | lst es => exact ev
  | comp elt tg it t => exact ev
  | comp2 elt tg it t tg1 it1 t1 => exact ev
  | rng t a =>
    cases t with
    | false =>
      rw [evE] at ev ⊢
      simp only [Bool.false_eq_true, if_false, asL_l] at ev ⊢
      exact ev
    | true => cases h
  | prim q es =>
    cases q with
    | lst => exact ev
    | srt => exact ev
    | _ => cases h
  | _ => cases h
theorem fine_or {c : CE} {e : Expr} (h : (boB N S c e || mtE fns cs N S c e) = true) : fineX e = true := by
  rw [Bool.or_eq_true] at h
  exact h.elim boB_fine mtE_fine
theorem fines_E : ∀ {es : CEs} {xs : List Expr}, mtEs fns cs N S es xs = true → ∀ e ∈ xs, fineX e = true
  | .nil, xs, h => by rw [mtEs] at h; rw [isNil_inv h]; intro e m; cases m
  | .cons a es, xs, h => by
    rw [mtEs] at h
    obtain ⟨x, ys, rfl, h1, h2⟩ := mCons_inv h
    intro e m
    rcases List.mem_cons.mp m with rfl | m
    · exact mtE_fine h1
    · exact fines_E h2 e m
theorem fines_B : ∀ {es : CEs} {xs : List Expr}, mtBs fns cs N S es xs = true → ∀ e ∈ xs, fineX e = true
  | .nil, xs, h => by rw [mtBs] at h; rw [isNil_inv h]; intro e m; cases m
  | .cons a es, xs, h => by
    rw [mtBs] at h
    obtain ⟨x, ys, rfl, h1, h2⟩ := mCons_inv h
    intro e m
    rcases List.mem_cons.mp m with rfl | m
    · exact fine_or h1
    · exact fines_B h2 e m
theorem fines_A : ∀ {es : CEs} {xs : List Expr}, mtAs fns cs N S es xs = true → ∀ e ∈ xs, fineX e = true
  | .nil, xs, h => by rw [mtAs] at h; rw [isNil_inv h]; intro e m; cases m
  | .cons a es, xs, h => by
    rw [mtAs] at h
    obtain ⟨x, ys, rfl, h1, h2⟩ := mCons_inv h
    intro e m
    rcases List.mem_cons.mp m with rfl | m
    · rw [Bool.or_eq_true] at h1
      exact h1.elim stB_fine mtE_fine
    · exact fines_A h2 e m
theorem fine_I {c : CI} {e : Expr} (h : mtI fns cs N S c e = true) : fineX e = true := by
  cases c with
  | seq a => rw [mtI] at h; exact fine_or h
  | rng a => rw [mtI] at h; obtain ⟨p, z, r, rfl, _⟩ := mRg_inv h; rfl
  | rng2 a b => rw [mtI] at h; obtain ⟨p, z, u, r, rfl, _⟩ := mRg2_inv h; rfl
  | chr a => rw [mtI] at h; exact mtE_fine h

/-! ### the whole -/
theorem b_or (hX : Cxf P C fns cs N X S W) {c : CE} {e : Expr} (h : (boB N S c e || mtE fns cs N S c e) = true) (k : ∀ e, mtE fns cs N S c e = true → PE X e (tV P C W c)) : PE X e (tB P C W c) := by
  rw [Bool.or_eq_true] at h
  rcases h with h | h
  · exact e_bo hX h
  · exact tB_of_tV (k e h)
/-- all that is shown of an expression -/
structure Ok (P : Px) (C : Orc) (fns : List Str) (cs : List (Str × PyData)) (N : List Str) (c : CE) : Prop where
  v : ∀ {X : Cx} {S : Scope} {W : WX} {e : Expr}, Cxf P C fns cs N X S W → mtE fns cs N S c e = true → PE X e (tV P C W c)
  f : ∀ {X : Cx} {S : Scope} {W : WX} {e : Expr}, Cxf P C fns cs N X S W → frB c = true → mtE fns cs N S c e = true → PE X e (tF P C W c)
  t : ∀ {X : Cx} {S : Scope} {W : WX} {e : Expr}, Cxf P C fns cs N X S W → tstB c = true → mtE fns cs N S c e = true → PT X e (tT P C W c) ∧ (∀ ys q, e = .BoolOp .And ys q → PW X e (tT P C W c)) ∧ (∀ ys q, e = .BoolOp .Or ys q → PW X e (tT P C W c))
section
variable {c : CE}
/-- no new list, no and, or: its value is enough -/
theorem Ok.plain (hf : frB c = false) (v : ∀ {X : Cx} {S : Scope} {W : WX} {e : Expr}, Cxf P C fns cs N X S W → mtE fns cs N S c e = true → PE X e (tV P C W c) ∧ (∀ whole, isTrue e X.env whole = (do let v ← whole; standAt e.pos; holding [v] (truthy v))) ∧ ∀ o ys q, e ≠ .BoolOp o ys q) : Ok P C fns cs N c where
  v := fun hX h => (v hX h).1
  f := fun _ h => by rw [hf] at h; cases h
  t := fun hX _ h => by
    obtain ⟨h1, h2, h3⟩ := v hX h
    exact ⟨t_of h1 h2, fun ys q e => absurd e (h3 _ _ _), fun ys q e => absurd e (h3 _ _ _)⟩
theorem Ok.fresh (hf : frB c = true) (v : ∀ {X : Cx} {S : Scope} {W : WX} {e : Expr}, Cxf P C fns cs N X S W → mtE fns cs N S c e = true → PE X e (tF P C W c) ∧ (∀ whole, isTrue e X.env whole = (do let v ← whole; standAt e.pos; holding [v] (truthy v))) ∧ ∀ o ys q, e ≠ .BoolOp o ys q) : Ok P C fns cs N c where
  v := fun hX h => tV_of_tF (v hX h).1 (fr_list hf)
  f := fun hX _ h => (v hX h).1
  t := fun hX _ h => by
    obtain ⟨h1, h2, h3⟩ := v hX h
    exact ⟨t_of (tV_of_tF h1 (fr_list hf)) h2, fun ys q e => absurd e (h3 _ _ _), fun ys q e => absurd e (h3 _ _ _)⟩
end
mutual
theorem okE : ∀ c : CE, Ok P C fns cs N c
  | .cst d => .plain rfl fun hX h => by
    rw [mtE] at h
    have := e_cst hX h
    obtain ⟨c, k, p, rfl, _⟩ := mCst_inv h
    exact ⟨this, fun _ => rfl, fun _ _ _ z => (nomatch z)⟩
  | .nm i => .plain rfl fun hX h => by
    rw [mtE] at h
    have := e_nm hX h
    obtain ⟨x, p, rfl, _⟩ := mNm_inv h
    exact ⟨this, fun _ => rfl, fun _ _ _ z => (nomatch z)⟩
  | .bo i => .plain rfl fun hX h => by rw [mtE] at h; cases h
  | .stn i => .plain rfl fun hX h => by rw [mtE] at h; cases h
  | .gl k x d => .plain rfl fun hX h => by
    rw [mtE] at h
    have := e_gl hX h
    obtain ⟨p, rfl, _⟩ := mGl_inv h
    exact ⟨this, fun _ => rfl, fun _ _ _ z => (nomatch z)⟩
  | .neg a => .plain rfl fun hX h => by
    rw [mtE] at h
    obtain ⟨x, p, rfl, h⟩ := mNeg_inv h
    exact ⟨e_neg ((okE a).v hX h), fun _ => rfl, fun _ _ _ z => (nomatch z)⟩
  | .bin o a b => .plain rfl fun hX h => by
    rw [mtE] at h
    obtain ⟨x, y, p, rfl, h1, h2⟩ := mBin_inv h
    exact ⟨e_bin hX (b_or hX h1 fun e z => (okE a).v hX z) (b_or hX h2 fun e z => (okE b).v hX z), fun _ => rfl, fun _ _ _ z => (nomatch z)⟩
  | .cmp o a b => ⟨fun hX h => by
    rw [mtE] at h
    obtain ⟨x, y, p, rfl, h1, h2⟩ := mCmp_inv h
    exact e_cmp hX (b_or hX h1 fun e z => (okE a).v hX z) (b_or hX h2 fun e z => (okE b).v hX z) (fine_or h2), fun _ z => (by cases z), fun hX _ h => by
    rw [mtE] at h
    obtain ⟨x, y, p, rfl, h1, h2⟩ := mCmp_inv h
    exact ⟨e_cmpT hX (b_or hX h1 fun e z => (okE a).v hX z) (b_or hX h2 fun e z => (okE b).v hX z) (fine_or h2), fun _ _ z => (nomatch z), fun _ _ z => (nomatch z)⟩⟩
  | .chn o o' a b c => ⟨fun hX h => by
    rw [mtE] at h
    obtain ⟨x, y, z, p, rfl, h1, h2, h3⟩ := mChn_inv h
    exact e_chn hX ((okE a).v hX h1) ((okE b).v hX h2) ((okE c).v hX h3) (mtE_fine h3), fun _ z => (by cases z), fun hX _ h => by
    rw [mtE] at h
    obtain ⟨x, y, z, p, rfl, h1, h2, h3⟩ := mChn_inv h
    exact ⟨e_chnT hX ((okE a).v hX h1) ((okE b).v hX h2) ((okE c).v hX h3) (mtE_fine h3), fun _ _ z => (nomatch z), fun _ _ z => (nomatch z)⟩⟩
  | .and a b => ⟨fun hX h => by
    rw [mtE] at h
    obtain ⟨x, xs, p, rfl, h1, h2⟩ := mAnd_inv h
    exact e_and ((okE a).v hX h1) (fun y z => (okE b).v hX z) h2, fun _ z => (by cases z), fun hX ht h => by
    rw [mtE] at h
    rw [tstB] at ht
    obtain ⟨t1, t2⟩ := both ht
    obtain ⟨x, xs, p, rfl, h1, h2⟩ := mAnd_inv h
    have := e_andT ((okE a).t hX t1 h1).1 (fun y z => ⟨((okE b).t hX t2 z).1, ((okE b).t hX t2 z).2.1⟩) h2
    exact ⟨this.pt, fun _ _ _ => this, fun _ _ z => (nomatch z)⟩⟩
  | .or a b => ⟨fun hX h => by
    rw [mtE] at h
    obtain ⟨x, xs, p, rfl, h1, h2⟩ := mOr_inv h
    exact e_or ((okE a).v hX h1) (fun y z => (okE b).v hX z) h2, fun _ z => (by cases z), fun hX ht h => by
    rw [mtE] at h
    rw [tstB] at ht
    obtain ⟨t1, t2⟩ := both ht
    obtain ⟨x, xs, p, rfl, h1, h2⟩ := mOr_inv h
    have := e_orT ((okE a).t hX t1 h1).1 (fun y z => ⟨((okE b).t hX t2 z).1, ((okE b).t hX t2 z).2.2⟩) h2
    exact ⟨this.pt, fun _ _ z => (nomatch z), fun _ _ _ => this⟩⟩
  | .not a => ⟨fun hX h => by
    rw [mtE] at h
    obtain ⟨x, p, rfl, h1⟩ := mNot_inv h
    exact e_not ((okE a).v hX h1), fun _ z => (by cases z), fun hX ht h => by
    rw [mtE] at h
    rw [tstB] at ht
    obtain ⟨x, p, rfl, h1⟩ := mNot_inv h
    exact ⟨e_notT ((okE a).t hX ht h1).1, fun _ _ z => (nomatch z), fun _ _ z => (nomatch z)⟩⟩
  | .ife t a b => ⟨fun hX h => by
    rw [mtE] at h
    obtain ⟨x, y, z, p, rfl, h1, h2, h3⟩ := mIfe_inv h
    obtain ⟨t1, h1⟩ := both h1
    exact e_ife ((okE t).t hX t1 h1).1 ((okE a).v hX h2) ((okE b).v hX h3), fun _ z => (by cases z), fun hX ht h => by cases ht⟩
  | .tup es => .plain rfl fun hX h => by
    rw [mtE] at h
    obtain ⟨xs, c, p, rfl, h⟩ := mTup_inv h
    obtain ⟨h1, h2⟩ := both h
    exact ⟨e_tup (dec h1) (okEs es hX h2), fun _ => rfl, fun _ _ _ z => (nomatch z)⟩
  | .lst es => .fresh rfl fun hX h => by
    rw [mtE] at h
    obtain ⟨xs, p, rfl, h⟩ := mLst_inv h
    obtain ⟨h1, h2⟩ := both h
    exact ⟨e_lst (dec h1) (okEs es hX h2), fun _ => rfl, fun _ _ _ z => (nomatch z)⟩
  | .idx a i => .plain rfl fun hX h => by
    rw [mtE] at h
    obtain ⟨x, y, p, rfl, h1, h2, h3⟩ := mIdx_inv h
    exact ⟨e_idx hX (b_or hX h1 fun e z => (okE a).v hX z) (tB_of_tV ((okE i).v hX h3)) (mtE_fine h3), fun _ => rfl, fun _ _ _ z => (nomatch z)⟩
  | .sl a lo hi => .plain rfl fun hX h => by
    rw [mtE] at h
    obtain ⟨x, l, u, p, q, rfl, h1, h2, h3⟩ := mSl_inv h
    exact ⟨e_sl hX (b_or hX h1 fun e z => (okE a).v hX z) (po_ok h2 fun e z => (okE lo).v hX z) (po_ok h3 fun e z => (okE hi).v hX z), fun _ => rfl, fun _ _ _ z => (nomatch z)⟩
  | .slp a k => .plain rfl fun hX h => by
    rw [mtE] at h
    obtain ⟨x, u, p, q, rfl, h1, h2, h3, h4⟩ := mSlp_inv h
    exact ⟨e_slp hX ((okE a).v hX h1) h2 h3 h4, fun _ => rfl, fun _ _ _ z => (nomatch z)⟩
  | .cab i f es => .plain rfl fun hX h => by
    rw [mtE] at h
    obtain ⟨x, p, y, ys, q, rfl, h1, h2, h3⟩ := mCall_inv h
    exact ⟨e_cab (e_call hX h1 h2 (okAr es hX h3) (fines_A h3)), fun _ => rfl, fun _ _ _ z => (nomatch z)⟩
  | .call f es => .plain rfl fun hX h => by
    rw [mtE] at h
    obtain ⟨x, p, y, ys, q, rfl, h1, h2, h3⟩ := mCall_inv h
    exact ⟨e_call hX h1 h2 (okAr es hX h3) (fines_A h3), fun _ => rfl, fun _ _ _ z => (nomatch z)⟩
  | .prim q es => by
    have key : ∀ {X : Cx} {S : Scope} {W : WX} {e : Expr}, Cxf P C fns cs N X S W → mtE fns cs N S (.prim q es) e = true → ((frB (.prim q es) = false → PE X e (tV P C W (.prim q es))) ∧ (frB (.prim q es) = true → PE X e (tF P C W (.prim q es)))) ∧
        (∀ whole, isTrue e X.env whole = (do let v ← whole; standAt e.pos; holding [v] (truthy v))) ∧ ∀ o ys q, e ≠ .BoolOp o ys q := fun hX h => by
      rw [mtE] at h
      obtain ⟨x, p, y, ys, r, rfl, h1, h2, h3⟩ := mCall_inv h
      exact ⟨e_prim hX (Option.some.inj h1) h2 (okBs es hX h3) (fines_B h3), fun _ => rfl, fun _ _ _ z => (nomatch z)⟩
    cases hf : frB (.prim q es) with
    | false => exact .plain hf fun hX h => ⟨(key hX h).1.1 hf, (key hX h).2⟩
    | true => exact .fresh hf fun hX h => ⟨(key hX h).1.2 hf, (key hX h).2⟩
  | .isa t a => .plain rfl fun hX h => by
    rw [mtE] at h
    obtain ⟨p, y, q, r, rfl, h1, h2, h3, h4⟩ := mIsa_inv h
    exact ⟨e_isa hX h3 h1 h2 ((okE a).v hX h4) (mtE_fine h4), fun _ => rfl, fun _ _ _ z => (nomatch z)⟩
  | .lenset a => .plain rfl fun hX h => by
    rw [mtE] at h
    obtain ⟨p, q, z, r, t, rfl, h1, h2, h3⟩ := mWrap_inv h
    exact ⟨e_lenset hX h1 h2 (b_or hX h3 fun e z => (okE a).v hX z) (fine_or h3), fun _ => rfl, fun _ _ _ z => (nomatch z)⟩
  | .rng true a => .plain rfl fun hX h => by
    rw [mtE] at h
    obtain ⟨p, q, z, r, t, rfl, h1, h2, h3⟩ := mWrap_inv h
    exact ⟨e_rngT hX h1 h2 ((okE a).v hX h3) (mtE_fine h3), fun _ => rfl, fun _ _ _ z => (nomatch z)⟩
  | .rng false a => .fresh rfl fun hX h => by
    rw [mtE] at h
    obtain ⟨p, q, z, r, t, rfl, h1, h2, h3⟩ := mWrap_inv h
    exact ⟨e_rngL hX h1 h2 ((okE a).v hX h3) (mtE_fine h3), fun _ => rfl, fun _ _ _ z => (nomatch z)⟩
  | .comp elt tg it t => .fresh rfl fun hX h => by
    rw [mtE] at h
    obtain ⟨x, tg', it', ifs, sc, p, rfl, h1, h2, h3, h4, h5⟩ := mComp_inv h
    exact ⟨e_comp hX h1 h2 (okI it hX (.inl rfl) h3) (fine_I h3) (fun X' hX' => (okE elt).v hX' h4) (fun X' hX' => ifs_ok h5 fun e z => ((okE t).t hX' (both z).1 (both z).2).1), fun _ => rfl, fun _ _ _ z => (nomatch z)⟩
  | .comp2 elt tg it t tg1 it1 t1 => .fresh rfl fun hX h => by
    rw [mtE] at h
    obtain ⟨x, tg', it', ifs, tg1', it1', ifs1, sc, p, rfl, h1, h2, h3, h4, h5, h6, h7, h8⟩ := mComp2_inv h
    obtain ⟨h5, h9⟩ := both h5
    exact ⟨e_comp2 hX h1 h2 h4 (okI it hX (.inl rfl) h3) (fine_I h3) (fine_I h9) (fun X' hX' => okI it1 hX' (.inr h5) h9) (fun X' hX' => (okE elt).v hX' h6) (fun X' hX' => ifs_ok h7 fun e z => ((okE t).t hX' (both z).1 (both z).2).1)
      (fun X' hX' => ifs_ok h8 fun e z => ((okE t1).t hX' (both z).1 (both z).2).1), fun _ => rfl, fun _ _ _ z => (nomatch z)⟩
theorem okEs : ∀ (c : CEs) {X : Cx} {S : Scope} {W : WX} {es : List Expr}, Cxf P C fns cs N X S W → mtEs fns cs N S c es = true → PA X es (tEs P C W c)
  | .nil, X, S, W, es, hX, h => by
    rw [mtEs] at h
    rw [isNil_inv h]
    exact a_nil
  | .cons a c, X, S, W, es, hX, h => by
    rw [mtEs] at h
    obtain ⟨x, xs, rfl, h1, h2⟩ := mCons_inv h
    exact a_cons ((okE a).v hX h1) (okEs c hX h2) (mtE_fine h1)
theorem okBs : ∀ (c : CEs) {X : Cx} {S : Scope} {W : WX} {es : List Expr}, Cxf P C fns cs N X S W → mtBs fns cs N S c es = true → PA X es (tBs P C W c)
  | .nil, X, S, W, es, hX, h => by
    rw [mtBs] at h
    rw [isNil_inv h]
    exact b_nil
  | .cons a c, X, S, W, es, hX, h => by
    rw [mtBs] at h
    obtain ⟨x, xs, rfl, h1, h2⟩ := mCons_inv h
    exact b_cons (b_or hX h1 fun e z => (okE a).v hX z) (okBs c hX h2) (fine_or h1)
theorem okAr : ∀ (c : CEs) {X : Cx} {S : Scope} {W : WX} {es : List Expr}, Cxf P C fns cs N X S W → mtAs fns cs N S c es = true → PA X es (tAr P C W c)
  | .nil, X, S, W, es, hX, h => by
    rw [mtAs] at h
    rw [isNil_inv h]
    exact r_nil
  | .cons a c, X, S, W, es, hX, h => by
    rw [mtAs] at h
    obtain ⟨x, xs, rfl, h1, h2⟩ := mCons_inv h
    rw [Bool.or_eq_true] at h1
    rcases h1 with h1 | h1
    · have fx := stB_fine h1
      cases a with
      | stn i => exact r_cons_st hX h1 (okAr c hX h2) fx
      | _ => cases h1
    · refine r_cons (fun i e => ?_) ((okE a).v hX h1) (okAr c hX h2) (mtE_fine h1)
      subst e
      rw [mtE] at h1
      cases h1
theorem okI : ∀ (c : CI) {X : Cx} {S : Scope} {W : WX} {b : Bool} {tg e : Expr}, Cxf P C fns cs N X S W → (b = true ∨ noBo c = true) → mtI fns cs N S c e = true → PI X tg e (tI P C W b c)
  | .seq a, X, S, W, b, tg, e, hX, hb, h => by
    rw [mtI] at h
    rw [Bool.or_eq_true] at h
    rcases h with h | h
    · rcases hb with rfl | hb
      · exact pi_any hX (tQ_of_tB (e_bo hX h))
      · cases a with
        | bo i => cases hb
        | _ => cases h
    · exact pi_any hX (tQ_of_tV ((okE a).v hX h))
  | .rng a, X, S, W, b, tg, e, hX, hb, h => by
    rw [mtI] at h
    obtain ⟨p, z, r, rfl, h1, h2⟩ := mRg_inv h
    exact i_rng hX h1 ((okE a).v hX h2) (mtE_fine h2)
  | .rng2 a c, X, S, W, b, tg, e, hX, hb, h => by
    rw [mtI] at h
    obtain ⟨p, z, u, r, rfl, h1, h2, h3⟩ := mRg2_inv h
    exact i_rng2 hX h1 ((okE a).v hX h2) (mtE_fine h2) ((okE c).v hX h3) (mtE_fine h3)
  | .chr a, X, S, W, b, tg, e, hX, hb, h => by
    rw [mtI] at h
    exact i_chr ((okE a).v hX h)
end
end
end Pv
set_option Elab.async false
set_option linter.all false
set_option maxRecDepth 100000
set_option maxHeartbeats 4000000
/-! Core L: sorted(range(len(row)), key=lambda k: row[k]). Own work. -/
set_option autoImplicit false
namespace Pv
open PySem PySem.Spec L2

mutual
theorem reads_flat {h : Heap} : ∀ {v : Value} {d : PyData} {as : List Addr}, Reads h v d as → noLst d = true → as = []
  | _, _, _, .none, _ => rfl
  | _, _, _, .bool _, _ => rfl
  | _, _, _, .int _ _, _ => rfl
  | _, _, _, .str _ _, _ => rfl
  | _, _, _, .list _ _ _ _, h => by cases h
  | _, _, _, .tuple _ _ _ r, h => readsAll_flat r (by rw [noLst] at h; exact h)
  | _, _, _, .dict _ _ _ _ _, h => by cases h
theorem readsAll_flat {h : Heap} : ∀ {vs : List Value} {ds : List PyData} {as : List Addr}, ReadsAll h vs ds as → noLsts ds = true → as = []
  | _, _, _, .nil, _ => rfl
  | _, _, _, .cons a b, h => by
    rw [noLsts, Bool.and_eq_true] at h
    rw [reads_flat a h.1, readsAll_flat b h.2]; rfl
end
/-- the lambda's text: key by row[k] -/
structure LamK (params : Arguments) (body : Expr) (scope : Scope) (row k : Str) : Prop where
  eb : ∃ p1 p2 p3, body = .Subscript (.Name row p1) (.Name k p2) p3
  kind : scope.kind = .function
  co : scope.isCoroutine = false
  gen : scope.isGenerator = false
  nocell : ∀ x ∈ scope.names, x.2 ≠ .cell
  ek : scope.names.lookup k = some .local
  er : scope.names.lookup row = some .free
  one : ∀ x ∈ scope.names, x.2 = .free → x.1 = row
  bind : ∀ (q : Str) (cl : List (Str × Addr)) (pm cv ctv v : Value), bindArgs (PySem.W.kla_fn "<lambda>" q params body scope cl pm cv ctv) ⟨[v], []⟩ = pure [(k, v)]
  d1 : (row == ("__debug__" : Str)) = false
  d2 : (row == ("__classdict__" : Str)) = false
  d3 : (k == ("__debug__" : Str)) = false
section
variable {prog : Program} {w : World} {A : Around} {s : Shared} {f c' c u : Addr} {pm ctv : Value} {params : Arguments} {body : Expr} {scope : Scope} {row k q : Str} {cl : List (Str × Addr)} {its : List Value} {v : Value} {d : PyData} {i : Nat} {t : Tok}
/-- the lambda, called with i -/
theorem lam_call (L : LamK params body scope row k) (hroom : A.depth < recursionLimit) (hf : s.heap.get? f = some (PySem.W.kla_obj "<lambda>" q params body scope cl pm c' ctv)) (hc : s.heap.CodeRec (.ref c') q) (hl : cl.lookup row = some c)
    (cell : s.heap.IsCell c (some (.ref u))) (nl : s.heap.NoLimit) (hu : s.heap.IsList u its.toArray ∨ PyProof.Rows.IsTup s.heap u its.toArray) (hz : its.length ≤ sizeLine) (hi : its[i]? = some v) (hr : Reads s.heap v d []) :
    wpAny (model prog w) A (call (.ref f) [.int i t]) (PySem.W.KeyPure d s) (fun _ _ => False) s := by
  obtain ⟨p1, p2, p3, rfl⟩ := L.eb
  refine wpAny_call (PySem.W.kla_callFunE hroom hf rfl L.co L.gen rfl hc ?_)
  rw [L.bind]
  refine wpAny_pure (wpAny_newFunctionEnv L.nocell (fun x hx => ?_) (fun h₁ hns hsb => ?_) L.kind)
  · obtain rfl : x = (k, .int i t) := by simpa using hx
    exact L.ek
  have kp : ∀ b o, s.heap.get? b = some o → h₁.get? b = some o := fun b o e => hsb.extBut b o (Nat.ne_of_lt (Heap.lt_size e)) (Heap.get?_push_of_some _ e)
  refine ⟨nl.fresh _ hsb, PySem.W.kla_codeExpr ?_⟩
  have hcell : h₁.IsCell c (some (.ref u)) := by
    obtain ⟨o, ho, hd⟩ := cell
    exact ⟨o, kp _ _ ho, hd⟩
  refine PyProof.Rows.Subscript_ (wpAny_Name (wpAny_loadName_free L.kind L.er hl hcell (wpAny_Name (wpAny_loadName_local L.kind L.ek hns (v := .int i t) (by simp) ?_) L.d3) L.d2) L.d1)
  have fin : PySem.W.KeyPure d s v { s with heap := h₁, toks := s.toks + ([(k, Value.int i t)] : List (Str × Value)).length } := ⟨h₁, _, rfl, kp, PyProof.Rows.Reads.keeps kp hr⟩
  have hlt : i < its.length := (List.getElem?_eq_some_iff.mp hi).1
  have e63 := line63
  have e0 : (0 : Int) ≤ (i : Int) := by omega
  have ei : ((i : Nat) : Int).toNat = i := by omega
  rcases hu with hu | hu
  · have hu' : h₁.IsList u its.toArray := (fun ⟨o, e, r⟩ => ⟨o, kp _ _ e, r⟩) hu
    exact PyProof.Rows.item_listR hu' e0 (by omega) (by rw [ei]; simpa using hi) fin rfl
  · have hu' : PyProof.Rows.IsTup h₁ u its.toArray := (fun ⟨o, e, r⟩ => ⟨o, kp _ _ e, r⟩) hu
    exact PyProof.Rows.subscriptTail_builtinR (x := v) hu'.typeIs PyProof.Rows.slot_tuple_getitem.lookup
      (PyProof.Rows.getItem_tuple (j := i) hu' (by omega) (by omega) (by rw [seqIndex_of e0 (by simp; omega), ei]) (by simpa using hi) ⟨rfl, fin⟩) rfl
end
/-! ### sorted(range(n), key=f) -/
theorem each_range : ∀ (us : List Value) (k : Nat), (∀ j x, us[j]? = some x → ∃ tt, x = Value.int ((k + j : Nat) : Int) tt) → W.EachIs (fun (x : Value) (i : Nat) => ∃ tt, x = Value.int (i : Int) tt) us (List.range' k us.length)
  | [], _, _ => .nil
  | u :: r, k, h => by
    rw [List.length_cons, List.range'_succ]
    refine .cons (h 0 u rfl) (each_range r (k + 1) fun j x e => ?_)
    obtain ⟨tt, e2⟩ := h (j + 1) x (by simpa using e)
    exact ⟨tt, by rw [e2]; congr 1; omega⟩
section
open PySem.Calls PyProof.Rows
variable {prog : Program} {w : World} {A : Around} {E : Value → Shared → Prop} {s : Shared} {r : Addr} {t u v : Tok} {n : Nat}
/-- the items of a range, taken into a list of the machine's own: it stands at the heap's end of before -/
theorem range_taken {Q : List Value → Shared → Prop} (hh : A.handled = none) (hr : IsRange s.heap r 0 (n : Int) 1 t u v) (hsm : Builtin.Range.small 0 (n : Int) 1 = true) (hn : Builtin.Range.rangeSize 0 (n : Int) 1 = n) (hl : n ≤ 2 ^ 24)
    (q : ∀ (g : Heap) (tk : Nat) (acc : Array Value), s.heap.objs.size < g.objs.size → (∀ b o, s.heap.get? b = some o → g.get? b = some o) → ItemsOf (fun i v => ∃ t, v = .int (0 + i * 1) t) acc n → Q acc.toList { s with heap := g, toks := tk }) : wpAny (model prog w) A (collect (.ref r)) Q E s := by
  have e0 : (s.heap.push (seqObj "list" #[] 0)).get? s.heap.objs.size = some (seqObj "list" #[] 0) := Heap.get?_push_size _ rfl
  have body : ∀ R : Result → Shared → Prop, (∀ (g : Heap) (tk : Nat) (acc : Array Value) (c : Nat), (∀ b o, s.heap.get? b = some o → g.get? b = some o) → g.get? s.heap.objs.size = some (seqObj "list" acc c) → ItemsOf (fun i v => ∃ t, v = .int (0 + i * 1) t) acc n → R (.ok (.ret (.ref s.heap.objs.size))) { s with heap := g, toks := tk }) →
      codeAny (model prog w) A (.builtin "proto.collect" ⟨[.ref r], []⟩) R s := fun R q => by
    refine codeAny_builtin PySem.F.entry_proto_collect ?_
    rw [Around.under_plainId PySem.F.plain_proto_collect _]
    refine wpAny_bind (m := newList []) (wpAny_newList ?_)
    refine wpAny_pure ⟨plainId_quiet PySem.F.plain_list_iadd _, codeAny_builtin PySem.F.entry_list_iadd ?_⟩
    rw [Around.under_plainId PySem.F.plain_list_iadd _]
    exact wpAny_extend_range (A := A) hh (Heap.get?_push_of_some _ hr) hsm hn hl _ _ 0 e0 fun g tk acc c kg at_ hi => q g tk acc c (fun b o e => kg b o (Nat.ne_of_lt (Heap.lt_size e)) (Heap.get?_push_of_some _ e)) at_ hi
  unfold collect
  refine wpAny_bind (wpAny_runValue (body _ fun g tk acc c kg at_ hi => ?_))
  show wpAny _ _ (load s.heap.objs.size >>= fun o => _) _ _ _
  exact wpAny_bind (wpAny_load at_ (wpAny_pure (q g tk acc (Heap.lt_size at_) kg hi)))
theorem sorted_range_key {q : Addr} {key : Nat → PyData} {Q : Value → Shared → Prop} (hh : A.handled = none) (hr : IsRange s.heap r 0 (n : Int) 1 t u v) (hlen : n ≤ 2 ^ 24)
    (hal : W.AllAlike ((List.range n).map key)) (hk : W.Sortable ((List.range n).map key)) (hu : ∀ i < n, A.units + 2 + (key i).depth < cLine)
    (turn : ∀ (i : Nat) (tt : Tok), i < n → ∀ (h : Heap) (tk : Nat), (∀ b o, s.heap.get? b = some o → h.get? b = some o) → wpAny (model prog w) A.in1.in1 (call (.ref q) [.int i tt]) (W.KeyPure (key i) { s with heap := h, toks := tk }) (fun _ _ => False) { s with heap := h, toks := tk })
    (h : ∀ (a : Addr) (out : List Value) (c : Nat) (h' : Heap) (tk : Nat), s.heap.objs.size ≤ a → (∀ b o, s.heap.get? b = some o → h'.get? b = some o) → h'.get? a = some (seqObj "list" (List.toArray out) c) →
      W.EachIs (fun (x : Value) (i : Nat) => ∃ tt, x = Value.int i tt) out ((List.range n).mergeSort (W.dataLe false key)) → Q (.ref a) { s with heap := h', toks := tk }) :
    wpAny (model prog w) A (call (.builtin "sorted") [.ref r] [(Str.ofString "key", .ref q)]) Q E s := by
  refine call_function_entry_kw kind_sorted plain_sorted entry_sorted (ksk_s1 _ _) ?_
  unfold Builtin.«sorted»
  refine wpAny_bind (m := checkCount "sorted" 1 1 _) (wpAny_pure ?_)
  have hsm : Builtin.Range.small 0 (n : Int) 1 = true := small_one (by omega) (by omega) (by omega) (by omega)
  have hn : Builtin.Range.rangeSize 0 (n : Int) 1 = n := by rw [rangeSize_one]; split <;> omega
  refine wpAny_bind (range_taken (by exact hh) hr hsm hn hlen fun h1 tk1 acc hsz k1 hi => ?_)
  have hal0 : acc.toList.length = n := by rw [Array.length_toList]; exact hi.1
  have hLs : acc.toList.length ≤ sizeLine := by rw [hal0, sizeLine_eq]; omega
  refine wpAny_bind (wpAny_newList ?_ hLs)
  refine wpAny_bind (wpAny_holding (wpAny_call_entry_kw slot_list_sort ⟨_, Heap.get?_push_size _ rfl, rfl⟩ entry_list_sort ?body (ksk_l1 _ _)))
  case body =>
    rw [ksk_t1]
    have each : W.EachIs (fun (x : Value) (i : Nat) => ∃ tt, x = Value.int i tt) acc.toList (List.range n) := by
      have := each_range acc.toList 0 fun j x e => by
        obtain ⟨tt, e2⟩ := hi.2 j x (by rw [← e, Array.getElem?_toList])
        have e3 : (0 + (j : Int) * 1) = ((0 + j : Nat) : Int) := by omega
        exact ⟨tt, by rw [e2, e3]⟩
      rw [hal0, ← List.range_eq_range'] at this
      exact this
    have lt1 : ∀ b o, s.heap.get? b = some o → b ≠ h1.objs.size := fun b o e => Nat.ne_of_lt (Heap.lt_size (k1 b o e))
    refine wpAny_mono (W.keyH_tree (P := fun f s' => f = .done (.ret .none) ∧ Q (.ref h1.objs.size) s') (kz := (List.range n).map key) (n := 0) (b := false) (vs := acc.toList) ?_ (by rw [List.length_map, List.length_range, hal0]) hLs hal hk ?_ (W.keyH_turns (h₁ := h1.push (seqObj "list" acc.toList.toArray 0)) each fun x i hx hm h tk kp => ?_) fun h' tk out c kp hD ko => ⟨rfl, ?_⟩) (fun f s' hf => ?_) fun _ _ e => e
    · exact Heap.get?_push_size _ rfl
    · intro d hd
      obtain ⟨i, hm, rfl⟩ := List.mem_map.mp hd
      have := hu i (List.mem_range.mp hm)
      show A.units + 1 + 1 + (key i).depth < cLine
      omega
    · obtain ⟨tt, rfl⟩ := hx
      exact turn i tt (List.mem_range.mp hm) h tk fun b o e => kp b o (lt1 b o e) (Heap.get?_push_of_some _ (k1 b o e))
    · exact h h1.objs.size out c h' tk (Nat.le_of_lt hsz) (fun b o e => kp b o (lt1 b o e) (Heap.get?_push_of_some _ (k1 b o e))) hD (W.keyedOut_each key ko each)
    · obtain ⟨rfl, hq⟩ := hf
      exact ⟨_, rfl, wpAny_pure ⟨_, rfl, hq⟩⟩
end

/-! ### the text -/
def lamKB (sc : Scope) (r : Str) : Bool :=
  ((match sc.kind with | .function => true | _ => false) && (!sc.isCoroutine && !sc.isGenerator)) && (((sc.names.all fun x => match x.2 with | .cell => false | .free => decide (x.1 = r) | _ => true) && (loclB sc "k" && (match sc.names.lookup r with | some .free => true | _ => false))) &&
    (!(r == ("__debug__" : Str)) && !(r == ("__classdict__" : Str))))
theorem lamK_of {sc : Scope} {r : Str} {an : Option Expr} {p p1 p2 p3 : Pos} (h : lamKB sc r = true) : LamK ⟨[], [⟨"k", an, p⟩], none, [], [], none, []⟩ (.Subscript (.Name r p1) (.Name "k" p2) p3) sc r "k" := by
  unfold lamKB at h
  obtain ⟨h1, h2⟩ := both h
  obtain ⟨h1, h3⟩ := both h1
  obtain ⟨h3, h4⟩ := both h3
  obtain ⟨h2, h5⟩ := both h2
  obtain ⟨h2, h6⟩ := both h2
  obtain ⟨h6, h7⟩ := both h6
  obtain ⟨h5, h8⟩ := both h5
  rw [List.all_eq_true] at h2
  refine ⟨⟨p1, p2, p3, rfl⟩, ?_, by simpa using h3, by simpa using h4, fun x m z => ?_, ?_, ?_, fun x m z => ?_, fun _ _ _ _ _ _ => rfl, by simpa using h5, by simpa using h8, by decide⟩
  · split at h1
    · assumption
    · cases h1
  · have := h2 x m
    rw [z] at this
    cases this
  · unfold loclB at h6
    split at h6
    · assumption
    · cases h6
  · split at h7
    · assumption
    · cases h7
  · have := h2 x m
    rw [z] at this
    exact dec this
def mSrt (N : List Str) (S : Scope) (j : Nat) : Expr → Bool
  | .Call (.Name so _) [.Call (.Name ra _) [.Call (.Name le p0) [.Name r p2] [] p1] [] _] [⟨some kw, .Lambda ⟨[], [⟨k, _, _⟩], none, [], [], none, []⟩ (.Subscript (.Name r2 _) (.Name k2 _) _) lsc _, _⟩] _ =>
    ((((decide (so = ("sorted" : Str)) && glB S so) && (decide (ra = ("range" : Str)) && glB S ra)) && ((decide (le = ("len" : Str)) && glB S le) && decide (kw = ("key" : Str)))) && ((decide (k = ("k" : Str)) && decide (k2 = ("k" : Str))) && decide (r2 = r))) &&
      ((mNm N S j (.Name r p2) && celB S r) && lamKB lsc r)
  | _ => false
/-- the def may make its lambda -/
def LamOk (P : Px) (X : Cx) : Prop := ∃ c Pt, LamX.TabB X.base X.mg c Pt ∧ X.env.code = .ref c ∧ (Pt, X.env.qual ++ "<lambda>") ∈ P.T ∧ ∀ p ∈ P.T, p.1 = Pt → p.2 = X.env.qual ++ "<lambda>"
section
variable {P : Px} {C : Orc} {fns : List Str} {cs : List (Str × PyData)} {N : List Str} {X : Cx} {S : Scope} {W : WX}
/-- the sorted places of what name j tells -/
def tAs (P : Px) (j : Nat) : TE := fun σ H Q => ∃ DF G ρ d ys, FrD P DF σ ρ G H ∧ ρ[j]? = some (.v d) ∧ (d = .list ys ∨ d = .tuple ys) ∧ (ordOk ys ∧ PySem.W.Sortable ys ∧ noLsts ys = true ∧ ys.length ≤ LIM) ∧
  ∀ a H' G' xs, FrD P DF σ ρ G' H' → Gr P.T DF G H G' H' → G' a = none → Fr0 H a → H' a = some (.lst xs) → Rps P.K G' xs (asortD ys) → Q (.ref a) H'
theorem reads_get {h : Heap} : ∀ {its : List Value} {xs : List PyData} {as : List Addr} {i : Nat} {d : PyData}, ReadsAll h its xs as → noLsts xs = true → xs[i]? = some d → ∃ v, its[i]? = some v ∧ Reads h v d []
  | _, _, _, _, _, .nil, _, e => by simp at e
  | _, _, _, 0, _, .cons a b, n, e => by
    rw [noLsts, Bool.and_eq_true] at n
    simp at e
    subst e
    have := reads_flat a n.1
    subst this
    exact ⟨_, rfl, a⟩
  | _, _, _, i + 1, d, .cons a b, n, e => by
    rw [noLsts, Bool.and_eq_true] at n
    obtain ⟨v, h1, h2⟩ := reads_get (i := i) (d := d) b n.2 (by simpa using e)
    exact ⟨v, by simpa using h1, h2⟩
theorem map_getD (xs : List PyData) : (List.range xs.length).map (fun k => xs.getD k .none) = xs := by
  refine List.ext_getElem? fun i => ?_
  rw [List.getElem?_map]
  by_cases h : i < xs.length
  · rw [List.getElem?_range h, List.getElem?_eq_getElem h]
    simp [List.getD_eq_getElem?_getD, List.getElem?_eq_getElem h]
  · rw [List.getElem?_eq_none (by simpa using h), List.getElem?_eq_none (by simpa using h)]
    rfl
theorem ints_out : ∀ {out : List Value} {l : List Nat}, PySem.W.EachIs (fun (x : Value) (i : Nat) => ∃ tt, x = Value.int i tt) out l → Vals (l.map fun (k : Nat) => V.int (k : Int)) out
  | _, _, .nil => .nil
  | _, _, .cons h t => .cons h (ints_out t)
theorem ints_rel {K : PySem.W.Frag} {G : Hp} : ∀ l : List Nat, Rps K G (l.map fun (k : Nat) => V.int (k : Int)) (l.map fun (k : Nat) => PyData.int (k : Int))
  | [] => .nil
  | _ :: r => .cons (.int _) (ints_rel r)
theorem srt_rest (hX : Cxf P C fns cs N X S W) {params : Arguments} {body : Expr} {lsc : Scope} {r2 : Str} (L : LamK params body lsc r2 "k") (lam : LamOk P X) (hcl : X.env.scope.names.lookup r2 = some .cell) {j : Nat} (hN : X.N[j]? = some r2) (hvis : Vis X.env.scope r2)
    {DF : DFt} {σ : L2.St} {ρ : Env} {G G2 H2 : Hp} {v : V} {d : PyData} {ys : List PyData} {Q : VK} (hσ : σ[j]? = some (some v)) (rp : Rp P.K G v d) (hd : d = .list ys ∨ d = .tuple ys) (ho1 : ordOk ys) (ho2 : PySem.W.Sortable ys) (ho3 : noLsts ys = true) (ho4 : ys.length ≤ LIM)
    (F2 : FrD P DF σ ρ G2 H2) {pins : List (Addr × Obj)} {s3 : Shared} {r : Addr} {t0 t1 t2 : Tok} (I3 : Inv X pins σ H2 s3) (hr : IsRange s3.heap r 0 (ys.length : Int) 1 t0 t1 t2) (hf : FpOk X pins H2 r) (sg : Sub G G2) {lp kp pos : Pos}
    (kq : ∀ a H' G' xs, FrD P DF σ ρ G' H' → Gr P.T DF G2 H2 G' H' → G' a = none → Fr0 H2 a → H' a = some (.lst xs) → Rps P.K G' xs (asortD ys) → Q (.ref a) H')
    (hdef : defaultsOf params X.env = ([], []) := by rfl) :
    wpAny (model X.prog X.w) X.A (evalAll (List.map (fun x => x.2) (backToKw pos (keywordEach [⟨some "key", .Lambda params body lsc lp, kp⟩] X.env)))) (fun kvs s₂ => wpAny (model X.prog X.w) X.A (call (.builtin "sorted") [.ref r] ((List.filterMap (fun x => x.1) (backToKw pos (keywordEach [⟨some "key", .Lambda params body lsc lp, kp⟩] X.env))).zip kvs)) (EP X pins σ Q) X.xe s₂) X.xe s3 := by
  obtain ⟨cc, Pt, TB, hcode, hmT, huT⟩ := lam
  have hfree : ∀ y ∈ lsc.names, y.2 = .free → ∃ c, X.env.cells.lookup y.1 = some c := fun y m z => by
    rw [L.one y m z]
    exact I3.ok.has _ (.inl hcl)
  have I3' := I3.pinned (fp := [r]) (fun b hb => by
    obtain rfl : b = r := by simpa using hb
    exact hf) (fun b hb => by
    obtain rfl : b = r := by simpa using hb
    exact ⟨_, hr, fun v z => by cases z⟩)
  show wpAny _ _ (evalAll [do let v ← eval (.Lambda params body lsc lp) X.env; standAt pos; pure v]) _ _ _
  refine wpAny_evalAll_cons (wpAny_bind (LamX.lam_make2 I3' TB hcode hmT huT F2.tab hdef hfree fun f c' pm ctv H4 s4 I4 eN T4 hf4 hfn hfr hco => wpAny_bind (wpAny_standAt (wpAny_pure (wpAny_evalAll_nil ?_)))))
  show wpAny _ _ (call (.builtin "sorted") [.ref r] [(Str.ofString "key", .ref f)]) _ _ s4
  have hr4 : IsRange s4.heap r 0 (ys.length : Int) 1 t0 t1 t2 := (I4.pin (r, _) (List.mem_append_right _ (List.mem_append_right _ (mem_pinsAt (List.mem_cons_self) hr)))).1
  have ntE : ∀ b o, H2 b = some o → noTbl o → H4 b = some o := fun b o e n => eN b o e fun ps z => by rw [z] at n; exact n
  have g24 : Gr P.T DF G2 H2 G2 H4 := ⟨Sub.refl _, fun b o e n _ => ntE b o e n, fun _ _ e => .inl e, fun a e o z n => e o (ntE a o z n) n, fun _ => T4⟩
  have sH4 : Sub G2 H4 := fun b o e => ntE b o (F2.sub b o e) (F2.dr.1 b o e)
  have F4 : FrD P DF σ ρ G2 H4 := F2.grow g24 sH4 (by
    refine ⟨F2.dr.1, ?_⟩
    have D := F2.dr.2
    cases hdf : DF with
    | none => trivial
    | some q =>
      rw [hdf] at D
      obtain ⟨d1, d2, d3, pp, cells, d4, d5, d6⟩ := D
      exact ⟨d1, d2, d3, pp, cells, ntE _ _ d4 trivial, ntE _ _ d5 trivial, d6⟩)
  have I5 : Inv X pins σ H4 s4 := I4.unpinned
  obtain ⟨m, hns, hl⟩ := I5.loc
  obtain ⟨u, ru, l⟩ := hl j r2 v hN hσ hvis
  have rp4 : Rb P.K DF G2 H4 v d := .inl (rp.mono sg)
  obtain ⟨a, vs, its, as, rfl, rfl, q1, rv, hrd, hz, hh⟩ := seq_read hX.o I5 F4 rp4 ru hd ho1.2.2
  obtain ⟨c, hc, hcell⟩ : ∃ c, X.env.cells.lookup r2 = some c ∧ s4.heap.IsCell c (some (.ref a)) := by
    rcases l with ⟨hk, _⟩ | ⟨_, c, hc, hcell⟩
    · have hk : X.env.scope.names.lookup r2 = some .local := hk
      rw [hcl] at hk; cases hk
    · exact ⟨c, hc, hcell⟩
  have hy : (r2, NameKind.free) ∈ lsc.names := PySem.mem_of_lookup L.er
  obtain ⟨c2, hc2⟩ := mem_lookup (cloFrom_has (cells := X.env.cells) (acc := []) hy)
  have ec : c2 = c := by
    rcases cloFrom_mem (PySem.mem_of_lookup hc2) with hm | ⟨_, h2⟩
    · cases hm
    · rw [h2, hc]; rfl
  subst ec
  obtain ⟨⟨oc, ovs, ot, hoc, hdc, hvc⟩, _, _⟩ := I5.hok c' _ hco
  have hu := hX.o.units
  have hlim : ys.length ≤ 2 ^ 24 := Nat.le_trans ho4 (by decide)
  have hgd : ∀ i, i < ys.length → ys[i]? = some (ys.getD i .none) := fun i hi => by
    rw [List.getElem?_eq_getElem hi]
    simp [List.getD_eq_getElem?_getD, List.getElem?_eq_getElem hi]
  refine sorted_range_key (key := fun i => ys.getD i .none) hX.o.hd hr4 hlim (by rw [map_getD]; exact fun x m y m' => ho1.1.1 x m y m') (by rw [map_getD]; exact ho2) (fun i hi => ?_) (fun i tt hi h tk kp => ?_) fun b out cc2 h' tk hn kp hat he => ?_
  · have := depth_mem (List.mem_of_getElem? (hgd i hi))
    have := ho1.2.1
    show X.A.units + 2 + (ys.getD i .none).depth < cLine
    omega
  · obtain ⟨x, hx, hrx⟩ := reads_get hrd ho3 (hgd i hi)
    refine lam_call (s := { s4 with heap := h, toks := tk }) L hX.o.depth (kp _ _ hf4) ⟨c', oc, ovs, ot, rfl, kp _ _ hoc, hdc, hvc⟩ hc2 ((fun ⟨o, e, q⟩ => ⟨o, kp _ _ e, q⟩) hcell) (I5.nolimit.keeps kp) ?_ hz hx (PyProof.Rows.Reads.keeps kp hrx)
    rcases hh with ⟨_, _, hl⟩ | ⟨_, _, hl, _⟩
    · exact .inl ((fun ⟨o, e, q⟩ => ⟨o, kp _ _ e, q⟩) hl)
    · exact .inr ((fun ⟨o, e, q⟩ => ⟨o, kp _ _ e, q⟩) hl)
  · have hb : H4 b = none := I5.hok.fresh hn
    have vs1 := ints_out he
    have hlen : (((List.range ys.length).mergeSort (PySem.W.dataLe false fun i => ys.getD i .none)).map fun (k : Nat) => V.int (k : Int)).length ≤ sizeLine := by
      rw [List.length_map, List.length_mergeSort, List.length_range]
      exact Nat.le_trans ho4 line_lim
    obtain ⟨F6, g6⟩ := F4.more (o := .lst (((List.range ys.length).mergeSort (PySem.W.dataLe false fun i => ys.getD i .none)).map fun (k : Nat) => V.int (k : Int))) hb
    refine ⟨.ref b, _, I5.laid (t' := tk) (o := .lst (((List.range ys.length).mergeSort (PySem.W.dataLe false fun i => ys.getD i .none)).map fun (k : Nat) => V.int (k : Int))) kp ?_ ⟨hlen, out, cc2, vs1, hat⟩, rfl, kq b _ G2 _ F6 (g24.trans g6) (F4.none_of hb) (g24.live b (.of hb)) upd_same (ints_rel _)⟩
    exact hn
theorem pe_srt (hX : Cxf P C fns cs N X S W) (lam : LamOk P X) {j : Nat} {e : Expr} (h : mSrt N S j e = true) : PE X e (tAs P j) := by
  unfold mSrt at h
  split at h
  · rename_i so p6 ra p7 le p0 r p2 p1 p8 kw k an p9 r2 q1 k2 q2 q3 lsc lp kp pos
    obtain ⟨h1, h2⟩ := both h
    obtain ⟨h1, h3⟩ := both h1
    obtain ⟨h1, h4⟩ := both h1
    obtain ⟨h1, h5⟩ := both h1
    obtain ⟨h1, g1⟩ := both h1
    obtain ⟨h5, g2⟩ := both h5
    obtain ⟨h4, h6⟩ := both h4
    obtain ⟨h4, g3⟩ := both h4
    obtain ⟨h3, h7⟩ := both h3
    obtain ⟨h3, h8⟩ := both h3
    obtain ⟨h2, hlk⟩ := both h2
    obtain ⟨hnm, hcell⟩ := both h2
    obtain rfl := dec h1
    obtain rfl := dec h5
    obtain rfl := dec h4
    obtain rfl := dec h6
    obtain rfl := dec h3
    obtain rfl := dec h8
    obtain rfl := dec h7
    have L : LamK ⟨[], [⟨"k", an, p9⟩], none, [], [], none, []⟩ (.Subscript (.Name r2 q1) (.Name "k" q2) q3) lsc r2 "k" := lamK_of hlk
    obtain ⟨cc, Pt, TB, hcode, hmT, huT⟩ := lam
    have hcl : X.env.scope.names.lookup r2 = some .cell := by
      rw [hX.o.sc]
      unfold celB at hcell
      split at hcell
      · assumption
      · cases hcell
    refine ⟨fun pins s σ H Q I hq => ?_⟩
    obtain ⟨DF, G, ρ, d, ys, F, hρ, hd, ⟨ho1, ho2, ho3, ho4⟩, kq⟩ := hq
    obtain ⟨v, hσ, rp⟩ := F.slots j _ hρ
    obtain ⟨x', p', e', hx⟩ := mNm_inv hnm
    cases e'
    obtain ⟨hN, hvis, hdb, hcd⟩ := nmB_inv hx
    rw [← hX.o.hN] at hN
    rw [← hX.o.sc] at hvis
    obtain ⟨gs1, gs2⟩ := hX.glo g1
    obtain ⟨gr1, gr2⟩ := hX.glo g2
    obtain ⟨gl1, gl2⟩ := hX.glo g3
    have hlen : PE X (.Call (.Name "len" p0) [.Name r2 p2] [] p1) (tV P C W (.prim .len (.cons (.nm j) .nil))) := (okE _).v hX (by
      rw [mtE]
      simp [mCall, mtBs, mCons, isNil, boB, mtE, primN, g3, hnm])
    refine wpAny_Call_Name_kw (ld_blt I gs1 (hX.o.free _ (by decide)) PyProof.Rows.boot_sorted ?_ (by decide) (by decide))
    refine PyProof.Rows.callWith_kw ?_ rfl rfl rfl rfl
    -- range(len(row))
    refine PyProof.Rows.args_cons ?_ rfl
    refine PyProof.Rows.Call_ (ld_blt I gr1 (hX.o.free _ (by decide)) PyProof.Rows.boot_range ?_ (by decide) (by decide))
    refine PyProof.Rows.callWith_type1 (one_arg (R := fun x H1 => ∃ G1, x = .int ys.length ∧ FrD P DF σ ρ G1 H1 ∧ Gr P.T DF G H G1 H1) hlen I ⟨DF, G, ρ, fun z => z = .int ys.length, noE, F, ?_, fun w H' G' z hz F' g rz => ?_, KX.noE⟩ (fun u s2 x H2 I2 r3 ⟨G2, ex, F2, g2⟩ => ?_) rfl) rfl rfl
    · rw [evE, evEs, evE, hρ]
      rw [slotV_v, evEs]
      rcases hd with rfl | rfl <;> rfl
    · subst hz
      cases rz
      exact ⟨G', rfl, F', g⟩
    subst ex
    obtain ⟨t0, rfl⟩ := r3
    refine call_range_1 (PyProof.Rows.args_nil ?_)
    refine srt_rest hX L ⟨cc, Pt, TB, hcode, hmT, huT⟩ hcl hN hvis hσ rp hd ho1 ho2 ho3 ho4 F2 (I2.kept fun b o e => Heap.get?_push_of_some _ e) (IsRange.new _ _ _ _ _ _ _) (I2.fpOk (Nat.le_refl _) (I2.hok.fresh (Nat.le_refl _))) (g2.sub) fun a H' G' xs F' g' n1 n2 e r => kq a H' G' xs F' (g2.trans g') n1 (g2.live a n2) e r
  · cases h
end
end Pv
set_option Elab.async false
set_option linter.all false
set_option maxRecDepth 100000
set_option maxHeartbeats 4000000
/-! Core 12: which rows a compact statement stands for; the frame behind stores. Own work. -/
set_option autoImplicit false
namespace Pv
open PySem PySem.Spec L2

/-! ### which rows -/
def lcB : Expr → Bool
  | .ListComp _ _ _ _ => true
  | .SetComp _ _ _ _ => true
  | .DictComp _ _ _ _ _ => true
  | _ => false
def tuB : Expr → Bool
  | .Tuple _ _ _ => true
  | _ => false
/-- the store of a comprehension that is made over the store -/
def swB (S : Scope) (t : Str) (pos : Pos) (value : Expr) : Bool := match value with
  | .ListComp _ _ sc _ => S.kind == .function && S.names.lookup t == some .local && pos.line == value.pos.line && !(sc.names.any fun (n, k) => n == t && (k == .local || k == .cell))
  | _ => false
/-- name = e -/
def mSet (N : List Str) (S : Scope) (i : Nat) (lc : Bool) (f : Expr → Bool) : Stmt → Bool
  | .Assign [.Name x _] e _ => stoB N S S i x && ((lc || !lcB e) && f e)
  | _ => false
def mUnp (N : List Str) (S : Scope) (is : List Nat) (f : Expr → Bool) : Stmt → Bool
  | .Assign [.Tuple ts k p] e _ => tgB N S S (.tp is) (.Tuple ts k p) && ((!lcB e && !tuB e) && f e)
  | _ => false
def locs (N : List Str) (S : Scope) : List Nat → List Expr → Bool
  | [], [] => true
  | i :: is, .Name x _ :: ts => (ixB N i x && loclB S x) && locs N S is ts
  | _, _ => false
/-- the names on one line -/
def onLine : List Expr → Bool
  | .Name _ p :: ts => ts.all fun
    | .Name _ q => q.line == p.line
    | _ => false
  | _ => false
def nodupB : List Nat → Bool
  | [] => true
  | i :: is => !is.contains i && nodupB is
/-- a, b = x, y: stored from the right -/
def mPar (N : List Str) (S : Scope) (is : List Nat) (f : List Expr → Bool) : Stmt → Bool
  | .Assign [.Tuple ts _ _] (.Tuple vs _ _) _ => (((is.length == 2 || is.length == 3) && vs.length == is.length) && (nodupB is && (locs N S is ts && onLine ts))) && ((S.kind == .function && (!vs.all (foldedForSure 8) && !vs.all (constantsAlone 8))) && f vs)
  | _ => false
/-- a name that is captured stands among the targets -/
def capB (S : Scope) (ts : List Expr) : Bool := ts.any fun
  | .Name x _ => !loclB S x
  | _ => false
/-- a, b = x, y: a tuple is made and taken apart -/
def mParT (N : List Str) (S : Scope) (is : List Nat) (f : List Expr → Bool) : Stmt → Bool
  | .Assign [.Tuple ts k p] (.Tuple vs _ _) _ => tgB N S S (.tp is) (.Tuple ts k p) && ((vs.all (foldedForSure 8) || (decide (4 ≤ is.length) || capB S ts)) && f vs)
  | _ => false
def mAug (N : List Str) (S : Scope) (o : Op2) (i : Nat) (f : Expr → Bool) : Stmt → Bool
  | .AugAssign (.Name x _) op e _ => stoB N S S i x && ((decide (op2O o = op) && (o == .add || o == .sub)) && f e)
  | _ => false
def mMeth (N : List Str) (S : Scope) (i : Nat) (m : Str) (f : Expr → Bool) : Stmt → Bool
  | .Expr (.Call (.Attribute (.Name x _) m' ap) [e] [] cp) _ => nmB N S i x && ((decide (m = m') && (ap.endLine == cp.line)) && f e)
  | _ => false
def mTs (S : Scope) (f : Expr → Bool) : Expr → Bool
  | .Call (.Name t _) [e] [] _ => (decide (t = ("tuple" : Str)) && glB S t) && f e
  | _ => false
/-- a def that makes a lambda bears this name among its names -/
def lamNm : Str := "<lambda>"
def mSeti (N : List Str) (S : Scope) (i : Nat) (f g : Expr → Bool) : Stmt → Bool
  | .Assign [.Subscript (.Name x _) a _] e _ => nmB N S i x && (!lcB e && (f a && g e))
  | _ => false
def mEx (f : Expr → Bool) : Stmt → Bool
  | .Expr e _ => !lcB e && f e
  | _ => false
def mRet (no : Bool) (f : Expr → Bool) : Stmt → Bool
  | .Return (some e) _ => f e
  | .Return none _ => no
  | _ => false
def mIf (f : Expr → Bool) (g h : List Stmt → Bool) : Stmt → Bool
  | .If c a b _ => f c && (g a && h b)
  | _ => false
def mWhl (f : Expr → Bool) (g : List Stmt → Bool) : Stmt → Bool
  | .While c b [] _ => f c && g b
  | _ => false
def mFor (N : List Str) (S : Scope) (tg : Tg) (f : Expr → Bool) (g : List Stmt → Bool) : Stmt → Bool
  | .For t it b [] _ => tgB N S S tg t && (f it && g b)
  | _ => false
def mBrk : Stmt → Bool
  | .Break _ => true
  | _ => false
def mCon : Stmt → Bool
  | .Continue _ => true
  | _ => false
def nilS : List Stmt → Bool
  | [] => true
  | _ => false
def consS (f : Stmt → Bool) (g : List Stmt → Bool) : List Stmt → Bool
  | s :: ss => f s && g ss
  | [] => false
section
variable (fns : List Str) (cs : List (Str × PyData)) (N : List Str)
def mtPs (S : Scope) : List (Nat × Bool) → CEs → List Expr → Bool
  | [], .nil => isNil
  | i :: is, .cons a es => mCons (fun x => (!i.2 || frB a) && mtE fns cs N S a x) (mtPs S is es)
  | _, _ => fun _ => false
def isFrz : CS → Bool
  | .frz _ => true
  | _ => false
mutual
def mtS (S : Scope) : CS → Stmt → Bool
  | .set i e => mSet N S i (frB e) (mtE fns cs N S e)
  | .own i e => mSet N S i true (fun x => frB e && mtE fns cs N S e x)
  | .mks _ _ _ => fun _ => false
  | .unp is e => mUnp N S is (mtE fns cs N S e)
  | .par is es => fun s => mPar N S (is.map (·.1)) (mtPs fns cs N S is es) s || mParT N S (is.map (·.1)) (fun xs => (is.all fun i => !i.2) && (decide (cesLen es ≤ 1000) && mtEs fns cs N S es xs)) s
  | .aug o i e => mAug N S o i (mtE fns cs N S e)
  | .app i e => mMeth N S i "append" (mtE fns cs N S e)
  | .ext i e => mMeth N S i "extend" (mtE fns cs N S e)
  | .apps i j => fun s => N.contains lamNm && mMeth N S i "append" (mTs S (mSrt N S j)) s
  | .seti i a e => mSeti N S i (mtE fns cs N S a) (mtE fns cs N S e)
  | .pop _ _ _ => fun _ => false
  | .ex e => mEx (mtE fns cs N S e)
  | .ret e => mRet (isNo e) (mtE fns cs N S e)
  | .ifs t a b => mIf (fun x => tstB t && mtE fns cs N S t x) (mtSs S a) (mtSs S b)
  | .whl t b => mWhl (fun x => tstB t && mtE fns cs N S t x) (mtSs S b)
  | .fors tg it b _ => mFor N S tg (fun x => noBo it && mtI fns cs N S it x) (mtSs S b)
  | .brk => mBrk
  | .cont => mCon
  | .frz _ => fun _ => false
  | .rai _ _ => fun _ => false
  | .never => fun _ => true
def mtSs (S : Scope) : CSs → List Stmt → Bool
  | .nil => nilS
  | .cons s ss => fun sts => if isFrz s = true then mtSs S ss sts else consS (mtS S s) (mtSs S ss) sts
end
end

/-! ### the frame behind a store -/
section
variable {P : Px} {DF : DFt} {σ : L2.St} {ρ : Env} {G H G' H' : Hp}
theorem FrD.drops (F : FrD P DF σ ρ G H) : ∀ ws : List Nat, FrD P DF σ (wipeE ρ ws) G H
  | [] => F
  | w :: ws => (FrD.drops F ws).reslot trivial fun _ z => (nomatch z)
/-- a slot is set to a new list -/
theorem FrD.setO (F : FrD P DF σ ρ G H) {i : Nat} {a : Addr} {xs : List V} {ds : List PyData} (g : G a = none) (h0 : Fr0 P.H0 a) (hn : NotIn a DF) (e : H a = some (.lst xs)) (r : Rps P.K G xs ds) (no : ∀ (i : Nat) d, ρ[i]? = some (.own d) → σ[i]? ≠ some (some (.ref a))) :
    FrD P DF (σ.set i (some (.ref a))) (ρ.set i (.own (.list ds))) G H where
  len := by rw [List.length_set, List.length_set]; exact F.len
  sub := F.sub
  sub0 := F.sub0
  new := F.new
  keep0 := F.keep0
  df := F.df
  slots := fun j t q => by
    rw [get_set] at q ⊢
    rw [← F.len]
    split at q
    · rename_i h
      rw [if_pos h]
      cases q
      exact ⟨a, rfl, g, h0, hn, xs, e, r⟩
    · rename_i h
      rw [if_neg h]
      exact F.slots j t q
  own1 := fun j k d d' p h1 h2 h3 h4 => by
    rw [get_set] at h1 h2 h3 h4
    rw [← F.len] at h3 h4
    by_cases n1 : j = i ∧ i < ρ.length
    · rw [if_pos n1] at h1 h3
      by_cases n2 : k = i ∧ i < ρ.length
      · exact n1.1.trans n2.1.symm
      · rw [if_neg n2] at h2 h4
        cases h3
        exact absurd h4 (no k d' h2)
    · rw [if_neg n1] at h1 h3
      by_cases n2 : k = i ∧ i < ρ.length
      · rw [if_pos n2] at h2 h4
        cases h4
        exact absurd h3 (no j d h1)
      · rw [if_neg n2] at h2 h4
        exact F.own1 j k d d' p h1 h2 h3 h4
  dr := F.dr
  live0 := F.live0
  tab := F.tab
/-- a list of ours is written -/
theorem FrD.wr (F : FrD P DF σ ρ G H) {i : Nat} {a : Addr} {d : PyData} {ys : List V} {ds : List PyData} (e : ρ[i]? = some (.own d)) (s : σ[i]? = some (some (.ref a))) (r : Rps P.K G ys ds) : FrD P DF σ (ρ.set i (.own (.list ds))) G (upd H a (.lst ys)) := by
  obtain ⟨p, h1, h2, h3, h4, h5⟩ := F.slots i _ e
  obtain rfl : p = a := by rw [s] at h1; cases h1; rfl
  obtain ⟨zs, h6⟩ : ∃ zs, H p = some (.lst zs) := by
    cases d with
    | list ds => obtain ⟨xs, z, _⟩ := h5; exact ⟨xs, z⟩
    | _ => exact h5.elim
  have hi : i < ρ.length := (List.getElem?_eq_some_iff.mp e).1
  have F1 : FrD P DF σ (ρ.set i .un) G H := F.reslot trivial fun _ z => (nomatch z)
  have no : ∀ (j : Nat) d, (ρ.set i .un)[j]? = some (.own d) → σ[j]? ≠ some (some (.ref p)) := fun j d' q z => by
    rw [get_set] at q
    split at q
    · cases q
    · rename_i n
      exact n ⟨F.own1 j i d' d p q e z s, hi⟩
  have F2 := F1.poke (ys := ys) h6 h2 h3 h4 no
  have F3 := F2.setO (i := i) (a := p) h2 h3 h4 upd_same r no
  rw [List.set_set] at F3
  have : σ.set i (some (.ref p)) = σ := by
    refine List.ext_getElem? fun j => ?_
    rw [get_set]
    split
    · rename_i n; rw [n.1, s]
    · rfl
  rw [this] at F3
  exact F3
end
end Pv
set_option Elab.async false
set_option linter.all false
set_option maxRecDepth 100000
set_option maxHeartbeats 4000000
/-! Core 13: every row means what its compact text says. Own work. -/
set_option autoImplicit false
namespace Pv
open PySem PySem.Spec L2

/-- what is wanted behind rows, from the frozen part G on -/
structure KS (P : Px) (W : WX) (G : Hp) (D : Ends) (p : Fl → Prop) (e : Ex → Env → Prop) : Prop where
  nx : ∀ ρ' σ' H' DF' G', p (.nx ρ') → FrD P DF' σ' ρ' G' H' → Sub G G' → D.nx σ' H'
  bk : ∀ ρ' σ' H' DF' G', p (.bk ρ') → FrD P DF' σ' ρ' G' H' → Sub G G' → D.bk σ' H'
  ct : ∀ ρ' σ' H' DF' G', p (.ct ρ') → FrD P DF' σ' ρ' G' H' → Sub G G' → D.ct σ' H'
  rt : ∀ d ρ' σ' H' DF' G' v, p (.rt d ρ') → FrD P DF' σ' ρ' G' H' → Sub G G' → Rp P.K G' v d → D.rt v H'
  ex : ∀ x ρ' σ' H' DF' G' cls dx, e x ρ' → FrD P DF' σ' ρ' G' H' → Sub G G' → ExAt P G' x cls dx H' → W cls dx σ' H'
section
variable (P : Px) (C : Orc) (W : WX)
def tS (s : CS) : TS := fun D σ H => ∃ DF G ρ p e, FrD P DF σ ρ G H ∧ evS C s ρ p e ∧ KS P W G D p e
def tSs (s : CSs) : TS := fun D σ H => ∃ DF G ρ p e, FrD P DF σ ρ G H ∧ evSs C s ρ p e ∧ KS P W G D p e
end
/-- a def's own context -/
structure Cxs (P : Px) (C : Orc) (fns : List Str) (cs : List (Str × PyData)) (N : List Str) (X : Cx) (S : Scope) (W : WX) : Prop where
  f : Cxf P C fns cs N X S W
  fn : ∀ x, X.fn x = true
  po : PassesOwn (model X.prog X.w) X.A X.env X.xe
  lam : N.contains lamNm = true → LamOk P X
section
variable {P : Px} {C : Orc} {fns : List Str} {cs : List (Str × PyData)} {N : List Str} {X : Cx} {S : Scope} {W : WX}
theorem PS.mono {st : Stmt} {t t' : TS} (h : PS X st t) (m : ∀ D σ H, t' D σ H → t D σ H) : PS X st t' := ⟨fun pins s σ H D I q => h.run pins s σ H D I (m D σ H q)⟩
theorem PSs.mono {st : List Stmt} {t t' : TS} (h : PSs X st t) (m : ∀ D σ H, t' D σ H → t D σ H) : PSs X st t' := ⟨fun pins s σ H D I q => h.run pins s σ H D I (m D σ H q)⟩
section
variable {G G1 : Hp} {D : Ends} {p : Fl → Prop} {e : Ex → Env → Prop}
theorem KS.step (k : KS P W G D p e) (s : Sub G G1) : KS P W G1 D p e :=
  ⟨fun ρ' σ' H' DF' G' h F q => k.nx ρ' σ' H' DF' G' h F (s.trans q), fun ρ' σ' H' DF' G' h F q => k.bk ρ' σ' H' DF' G' h F (s.trans q), fun ρ' σ' H' DF' G' h F q => k.ct ρ' σ' H' DF' G' h F (s.trans q),
    fun d ρ' σ' H' DF' G' v h F q r => k.rt d ρ' σ' H' DF' G' v h F (s.trans q) r, fun x ρ' σ' H' DF' G' cls dx h F q r => k.ex x ρ' σ' H' DF' G' cls dx h F (s.trans q) r⟩
theorem KS.kx (k : KS P W G D p e) {DF : DFt} {σ : L2.St} {ρ : Env} {H : Hp} : KX P W DF σ ρ G H (fun x => e x ρ) := fun x H' G' cls dx hx F g ex => k.ex x ρ σ H' DF G' cls dx hx F g.sub ex
end
/-! ### stores of comprehensions -/
theorem swaps_no {e : Expr} (h : lcB e = false) (t : Option Expr) (l : Nat) (env : PySem.Env) : swapsWith e t l env = pure false := by
  cases e <;> first | rfl | cases h
theorem store_sc (hX : Cxs P C fns cs N X S W) {i : Nat} {x : Str} (h : stoB N S S i x = true) : X.N[i]? = some x ∧ Loc X.env.scope x := by
  obtain ⟨h1, h2⟩ := stoB_inv h
  rw [← hX.f.o.hN] at h1
  rw [← hX.f.o.sc] at h2
  exact ⟨h1, h2.elim .inl fun z => .inr z.2⟩
/-- name = e by e's value -/
theorem s_setV (hX : Cxs P C fns cs N X S W) {i : Nat} {x : Str} {py pos : Pos} {e : Expr} {t : TE} (h : stoB N S S i x = true) (he : PE X e t) (hs : swapsWith e (some (.Name x py)) pos.line X.env = pure false) : PS X (.Assign [.Name x py] e pos) (tAsg t (gName i)) := by
  obtain ⟨h1, h2⟩ := store_sc hX h
  exact ps_set hX.f.o.nd h1 h2 he hs (.inl (hX.fn x))
theorem comp_kind (hX : Cxs P C fns cs N X S W) {y : Str} {py p : Pos} {x : Expr} {gens : List Comprehension} {sc : Scope} {l : Nat} :
    swapsWith (.ListComp x gens sc p) (some (.Name y py)) l X.env = pure (X.env.blockKind == .function && X.env.kindOf y == some .local && py.line == p.line && !(sc.names.any fun (n, k) => n == y && (k == .local || k == .cell))) := rfl
/-- name = a new list -/
theorem s_setF (hX : Cxs P C fns cs N X S W) {i : Nat} {x : Str} {py pos : Pos} {e : Expr} {c : CE} (h : stoB N S S i x = true) (hf : frB c = true) (hm : mtE fns cs N S c e = true) : PS X (.Assign [.Name x py] e pos) (tAsg (tF P C W c) (gName i)) := by
  have hF := (okE (P := P) (C := C) (fns := fns) (cs := cs) (N := N) c).f hX.f hf hm
  by_cases hl : lcB e = false
  · exact s_setV hX h hF (swaps_no hl _ _ _)
  cases c with
  | lst es => rw [mtE] at hm; obtain ⟨xs, p, rfl, _⟩ := mLst_inv hm; exact absurd rfl hl
  | rng t a => rw [mtE] at hm; obtain ⟨p, q, z, r, t, rfl, _⟩ := mWrap_inv hm; exact absurd rfl hl
  | prim q es => rw [mtE] at hm; obtain ⟨x, p, y, ys, q, rfl, _⟩ := mCall_inv hm; exact absurd rfl hl
  | comp elt tg it t =>
    rw [mtE] at hm
    obtain ⟨x', tg', it', ifs, sc, p, rfl, h1, h2, h3, h4, h5⟩ := mComp_inv hm
    cases hb : (X.env.blockKind == .function && X.env.kindOf x == some .local && py.line == p.line && !(sc.names.any fun (n, k) => n == x && (k == .local || k == .cell))) with
    | false => exact s_setV hX h hF (by rw [comp_kind hX, hb])
    | true =>
      have hloc : X.env.scope.names.lookup x = some .local := by
        obtain ⟨hb, _⟩ := both hb
        obtain ⟨hb, _⟩ := both hb
        obtain ⟨_, hb⟩ := both hb
        exact eq_of_beq hb
      have ok : BlkOk X.N X.env.scope sc (ownOf N (tgs tg)) := by rw [hX.f.o.hN, hX.f.o.sc]; exact blkOk_by h1
      have bx := fun s H D cl fp => hX.f.blk s H sc D cl fp
      exact PS.mono (ps_setLc hX.f.o.calm hX.f.o.nd (store_sc hX h).1 hloc (by rw [comp_kind hX, hb]) (okI it hX.f (.inl rfl) h3) ok (fun s H D cl fp => pg_ok (bx s H D cl fp) (celB_fn s H D cl fp) h2)
        (fun s H D cl fp => ifs_ok h5 fun e z => ((okE t).t (bx s H D cl fp) (both z).1 (both z).2).1) (fun s H D cl fp => (okE elt).v (bx s H D cl fp) h4) (nofold (fine_I h3) _)) fun D σ H q => lc_ok (own_of (tgB_ix h2)) σ H _ q
  | comp2 elt tg it t tg1 it1 t1 =>
    rw [mtE] at hm
    obtain ⟨x', tg', it', ifs, tg1', it1', ifs1, sc, p, rfl, h1, h2, h3, h4, h5, h6, h7, h8⟩ := mComp2_inv hm
    obtain ⟨h5, h9⟩ := both h5
    cases hb : (X.env.blockKind == .function && X.env.kindOf x == some .local && py.line == p.line && !(sc.names.any fun (n, k) => n == x && (k == .local || k == .cell))) with
    | false => exact s_setV hX h hF (by rw [comp_kind hX, hb])
    | true =>
      have hloc : X.env.scope.names.lookup x = some .local := by
        obtain ⟨hb, _⟩ := both hb
        obtain ⟨hb, _⟩ := both hb
        obtain ⟨_, hb⟩ := both hb
        exact eq_of_beq hb
      have ok : BlkOk X.N X.env.scope sc (ownOf N (tgs tg ++ tgs tg1)) := by rw [hX.f.o.hN, hX.f.o.sc]; exact blkOk_by h1
      have bx := fun s H D cl fp => hX.f.blk s H sc D cl fp
      have ho : (ownOf N (tgs tg ++ tgs tg1)).map (·.2) = tgs tg ++ tgs tg1 := own_of fun i m => by
        rcases List.mem_append.mp m with m | m
        · exact tgB_ix h2 i m
        · exact tgB_ix h4 i m
      exact PS.mono (ps_setLc2 (vs1 := tgs tg1) hX.f.o.calm hX.f.o.nd (store_sc hX h).1 hloc (by rw [comp_kind hX, hb]) (okI it hX.f (.inl rfl) h3) ok (fun i m => by rw [ho]; exact List.mem_append_right _ m)
        (fun s H D cl fp => pg_ok (bx s H D cl fp) (celB_fn s H D cl fp) h2) (fun s H D cl fp => ifs_ok h7 fun e z => ((okE t).t (bx s H D cl fp) (both z).1 (both z).2).1) (fun s H D cl fp => okI it1 (bx s H D cl fp) (.inr h5) h9)
        (fun s H D cl fp => pg_ok (bx s H D cl fp) (celB_fn s H D cl fp) h4) (fun s H D cl fp => ifs_ok h8 fun e z => ((okE t1).t (bx s H D cl fp) (both z).1 (both z).2).1) (fun s H D cl fp => (okE elt).v (bx s H D cl fp) h6) (nofold (fine_I h3) _) (nofold (fine_I h9)))
        fun D σ H q => lc2_ok ho rfl σ H _ q
  | _ => cases hf
theorem mSet_inv {i : Nat} {lc : Bool} {f : Expr → Bool} {st : Stmt} (h : mSet N S i lc f st = true) : ∃ x p e q, st = .Assign [.Name x p] e q ∧ stoB N S S i x = true ∧ (lc || !lcB e) = true ∧ f e = true := by
  unfold mSet at h; split at h
  · obtain ⟨h1, h2⟩ := both h
    exact ⟨_, _, _, _, rfl, h1, both h2⟩
  · cases h
theorem s_set (hX : Cxs P C fns cs N X S W) {i : Nat} {c : CE} {st : Stmt} (h : mSet N S i (frB c) (mtE fns cs N S c) st = true) : PS X st (tS P C W (.set i c)) := by
  obtain ⟨x, p, e, q, rfl, h1, h2, h3⟩ := mSet_inv h
  cases hf : frB c with
  | true =>
    refine PS.mono (s_setF hX h1 hf h3) fun D σ H ⟨DF, G, ρ, p, e, F, ev, ks⟩ => ?_
    rw [evS] at ev
    refine ⟨DF, G, ρ, _, _, F, fr_list hf _ _ _ ev, fun a xs H' G' ds hd F' g n gn eq r => ?_, ks.kx⟩
    have kv : KV P DF σ ρ G H (fun d => p (.nx (ρ.set i (.v d)))) (fun v H' => D.nx (σ.set i (some v)) H') := fun v H' G' d hd F' g r => ks.nx _ _ _ _ _ hd (F'.setv r) g.sub
    exact KV.kf kv F a xs H' G' ds hd F' g n gn eq r
  | false =>
    rw [hf] at h2
    refine PS.mono (s_setV hX h1 ((okE c).v hX.f h3) (swaps_no (by simpa using h2) _ _ _)) fun D σ H ⟨DF, G, ρ, p, e, F, ev, ks⟩ => ?_
    rw [evS] at ev
    exact ⟨DF, G, ρ, _, _, F, ev, fun v H' G' d hd F' g r => ks.nx _ _ _ _ _ hd (F'.setv r) g.sub, ks.kx⟩
theorem s_own (hX : Cxs P C fns cs N X S W) {i : Nat} {c : CE} {st : Stmt} (h : mSet N S i true (fun x => frB c && mtE fns cs N S c x) st = true) : PS X st (tS P C W (.own i c)) := by
  obtain ⟨x, p, e, q, rfl, h1, h2, h3⟩ := mSet_inv h
  obtain ⟨hf, h3⟩ := both h3
  refine PS.mono (s_setF hX h1 hf h3) fun D σ H ⟨DF, G, ρ, p, e, F, ev, ks⟩ => ?_
  rw [evS] at ev
  exact ⟨DF, G, ρ, _, _, F, ev, fun a xs H' G' ds hd F' g n gn eq r => ks.nx _ _ _ _ _ hd (F'.setO gn (F.h0 n).1 (F.h0 n).2 eq r (fun j d z w => F.notOwn n j d z w)) g.sub, ks.kx⟩
theorem mUnp_inv {is : List Nat} {f : Expr → Bool} {st : Stmt} (h : mUnp N S is f st = true) : ∃ ts k p e q, st = .Assign [.Tuple ts k p] e q ∧ tgB N S S (.tp is) (.Tuple ts k p) = true ∧ lcB e = false ∧ tuB e = false ∧ f e = true := by
  unfold mUnp at h; split at h
  · obtain ⟨h1, h2⟩ := both h
    obtain ⟨h2, h3⟩ := both h2
    obtain ⟨h2, h4⟩ := both h2
    exact ⟨_, _, _, _, _, rfl, h1, by simpa using h2, by simpa using h4, h3⟩
  · cases h
theorem noswap {t e : Expr} (h : tuB e = false) (env : PySem.Env) : swappedStores [t] e env = pure none := by
  cases e <;> first | (cases t <;> rfl) | cases h
theorem s_unp (hX : Cxs P C fns cs N X S W) {is : List Nat} {c : CE} {st : Stmt} (h : mUnp N S is (mtE fns cs N S c) st = true) : PS X st (tS P C W (.unp is c)) := by
  obtain ⟨ts, k, p, e, q, rfl, h1, h2, h3, h4⟩ := mUnp_inv h
  refine PS.mono (ps_asg ((okE c).v hX.f h4) (pg_ok hX.f (fun x _ => hX.fn x) h1) (by rw [swapsWithSole]; exact swaps_no h2 _ _ _) (noswap h3 _) rfl) fun D σ H ⟨DF, G, ρ, p, e, F, ev, ks⟩ => ?_
  rw [evS] at ev
  refine ⟨DF, G, ρ, _, _, F, ev, fun v H' G' d hd F' g r => ?_, ks.kx⟩
  exact gT_ok (.tp is) (k := fun ρ' => p (.nx ρ')) F' r hd fun σ' ρ' hk F2 _ _ => ks.nx _ _ _ _ _ hk F2 g.sub
theorem mAug_inv {o : Op2} {i : Nat} {f : Expr → Bool} {st : Stmt} (h : mAug N S o i f st = true) : ∃ x p e q, st = .AugAssign (.Name x p) (op2O o) e q ∧ stoB N S S i x = true ∧ (o = .add ∨ o = .sub) ∧ f e = true := by
  unfold mAug at h; split at h
  · obtain ⟨h1, h2⟩ := both h
    obtain ⟨h2, h3⟩ := both h2
    obtain ⟨h2, h4⟩ := both h2
    obtain rfl := dec h2
    refine ⟨_, _, _, _, rfl, h1, ?_, h3⟩
    rw [Bool.or_eq_true] at h4
    exact h4.imp eq_of_beq eq_of_beq
  · cases h
theorem s_aug (hX : Cxs P C fns cs N X S W) {o : Op2} {i : Nat} {c : CE} {st : Stmt} (h : mAug N S o i (mtE fns cs N S c) st = true) : PS X st (tS P C W (.aug o i c)) := by
  obtain ⟨x, p, e, q, rfl, h1, h2, h3⟩ := mAug_inv h
  obtain ⟨k1, k2⟩ := store_sc hX h1
  have key : ∀ (g : Int → Int → Int), (∀ m n k, opD o (.int m) (.int n) k → k (.int (g m n))) → ∀ D σ H, tS P C W (.aug o i c) D σ H → tAug i (tV P C W c) (ipI g) D σ H := fun g hg D σ H ⟨DF, G, ρ, p, e, F, ev, ks⟩ => by
    rw [evS] at ev
    obtain ⟨d, e1, ev⟩ := slotV_inv ev
    obtain ⟨v, e2, r⟩ := F.slots i _ e1
    refine ⟨v, e2, DF, G, ρ, _, _, F, ev, fun y H' G' d2 hd F' g' r2 => ?_, ks.kx⟩
    replace hd := asI_inv hd
    obtain ⟨m, rfl, hd⟩ := hd
    replace hd := asI_inv hd
    obtain ⟨n, rfl, hd⟩ := hd
    cases r
    cases r2
    exact ⟨m, n, rfl, rfl, ks.nx _ _ _ _ _ (hg _ _ _ hd) (F'.setv (.int _)) g'.sub⟩
  rcases h2 with rfl | rfl
  · exact PS.mono (ps_aug hX.f.o.nd k1 k2 ((okE c).v hX.f h3) ip_add (.inl (hX.fn x))) (key _ fun m n k z => z)
  · exact PS.mono (ps_aug hX.f.o.nd k1 k2 ((okE c).v hX.f h3) ip_sub (.inl (hX.fn x))) (key _ fun m n k z => z)
theorem mMeth_inv {i : Nat} {m : Str} {f : Expr → Bool} {st : Stmt} (h : mMeth N S i m f st = true) : ∃ x p ap e cp q, st = .Expr (.Call (.Attribute (.Name x p) m ap) [e] [] cp) q ∧ mNm N S i (.Name x p) = true ∧ (ap.endLine == cp.line) = true ∧ f e = true := by
  unfold mMeth at h; split at h
  · obtain ⟨h1, h2⟩ := both h
    obtain ⟨h2, h3⟩ := both h2
    obtain ⟨h2, h4⟩ := both h2
    obtain rfl := dec h2
    exact ⟨_, _, _, _, _, _, rfl, h1, h4, h3⟩
  · cases h
theorem few1 {e : Expr} (h : fineX e = true) (env : PySem.Env) (cp : Pos) : ((backTo cp (starEach [e] env)).all (fun x => !x.1) && (backToKw cp (keywordEach [] env)).all (fun x => x.1.isSome)
      && decide (([e] : List Expr).length + ([] : List Keyword).length + (if ([] : List Keyword).isEmpty then 0 else 1) < 30)) = true := by
  rw [star_fine h]; rfl
theorem own_at {DF : DFt} {σ : L2.St} {ρ : Env} {G H : Hp} {i : Nat} {ds : List PyData} (F : FrD P DF σ ρ G H) (e : ρ[i]? = some (.own (.list ds))) : ∃ a xs, σ[i]? = some (some (.ref a)) ∧ H a = some (.lst xs) ∧ Rps P.K G xs ds ∧ NotIn a DF := by
  obtain ⟨p, h1, h2, h3, h4, xs, h5, h6⟩ := F.slots i _ e
  exact ⟨p, xs, h1, h5, h6, h4⟩
theorem s_app (hX : Cxs P C fns cs N X S W) {i : Nat} {c : CE} {st : Stmt} (h : mMeth N S i "append" (mtE fns cs N S c) st = true) : PS X st (tS P C W (.app i c)) := by
  obtain ⟨x, p, ap, e, cp, q, rfl, h1, h2, h3⟩ := mMeth_inv h
  have fx := mtE_fine h3
  have he := (okE (P := P) (C := C) c).v hX.f h3
  refine PS.mono (ps_expr (pe_bm PySem.F.plainAttrs_list PySem.F.slot_list_append PySem.F.type_list_append mt_append (e_var hX.f h1) (pa_cons he pa_nil (star_fine fx _ _)) rfl (few1 fx _ _) h2 (star_fine fx _ _) rfl)) fun D σ H ⟨DF, G, ρ, p, e, F, ev, ks⟩ => ?_
  rw [evS] at ev
  obtain ⟨o, e1, ev⟩ := slotO_inv ev
  obtain ⟨ds, rfl, ev⟩ := asL_inv ev
  obtain ⟨a, xs, s1, s2, r, nd⟩ := own_at F e1
  refine ⟨.ref a, s1, .inl ⟨rfl, xs, SqL.of s2⟩, DF, G, ρ, _, _, F, ev, fun v H' G' d ⟨hz, hd⟩ F' g r' => ?_, ks.kx⟩
  have s3 := g.keep a _ s2 trivial nd
  refine ⟨a, xs, v, rfl, rfl, s3, ?_, ks.nx _ _ _ _ _ hd (F'.wr e1 s1 ((r.mono g.sub).append (.cons r' .nil))) g.sub⟩
  rw [r.length]
  exact Nat.lt_of_lt_of_le hz line_lim
theorem s_ext (hX : Cxs P C fns cs N X S W) {i : Nat} {c : CE} {st : Stmt} (h : mMeth N S i "extend" (mtE fns cs N S c) st = true) : PS X st (tS P C W (.ext i c)) := by
  obtain ⟨x, p, ap, e, cp, q, rfl, h1, h2, h3⟩ := mMeth_inv h
  have fx := mtE_fine h3
  have he := (okE (P := P) (C := C) c).v hX.f h3
  refine PS.mono (ps_expr (pe_bm PySem.F.plainAttrs_list PySem.F.slot_list_extend PySem.F.type_list_extend mt_extend (e_var hX.f h1) (pa_cons he pa_nil (star_fine fx _ _)) rfl (few1 fx _ _) h2 (star_fine fx _ _) rfl)) fun D σ H ⟨DF, G, ρ, p, e, F, ev, ks⟩ => ?_
  rw [evS] at ev
  obtain ⟨o, e1, ev⟩ := slotO_inv ev
  obtain ⟨ds, rfl, ev⟩ := asL_inv ev
  obtain ⟨a, xs, s1, s2, r, nd⟩ := own_at F e1
  refine ⟨.ref a, s1, .inl ⟨rfl, xs, SqL.of s2⟩, DF, G, ρ, _, _, F, ev, fun v H' G' d hd F' g r' => ?_, ks.kx⟩
  replace hd := asL_inv hd
  obtain ⟨es, rfl, hz, hd⟩ := hd
  have s3 := g.keep a _ s2 trivial nd
  cases r' with
  | lst e r' =>
    refine ⟨a, _, xs, _, rfl, rfl, s3, F'.sub _ _ e, ?_, ks.nx _ _ _ _ _ hd (F'.wr e1 s1 ((r.mono g.sub).append r')) g.sub⟩
    rw [r.length, r'.length]
    exact Nat.le_trans hz line_lim
theorem mTs_inv {f : Expr → Bool} {e : Expr} (h : mTs S f e = true) : ∃ p x q, e = .Call (.Name "tuple" p) [x] [] q ∧ glB S "tuple" = true ∧ f x = true := by
  unfold mTs at h; split at h
  · obtain ⟨h1, h2⟩ := both h
    obtain ⟨h1, h3⟩ := both h1
    obtain rfl := dec h1
    exact ⟨_, _, _, rfl, h3, h2⟩
  · cases h
theorem mSrt_fine {j : Nat} {e : Expr} (h : mSrt N S j e = true) : fineX e = true := by
  unfold mSrt at h; split at h
  · rfl
  · cases h
theorem s_apps (hX : Cxs P C fns cs N X S W) {i j : Nat} {st : Stmt} (h : (N.contains lamNm && mMeth N S i "append" (mTs S (mSrt N S j)) st) = true) : PS X st (tS P C W (.apps i j)) := by
  obtain ⟨hl, h⟩ := both h
  obtain ⟨x, p, ap, e, cp, q, rfl, h1, h2, h3⟩ := mMeth_inv h
  obtain ⟨p1, z, q1, rfl, g, h4⟩ := mTs_inv h3
  have fz := mSrt_fine h4
  obtain ⟨g1, g2⟩ := hX.f.glo g
  have hs := pe_srt hX.f (hX.lam hl) h4
  have ht := pe_callTy (pos := q1) (p := p1) call_tupleN g1 (hX.f.o.free _ (by decide)) PyProof.Rows.boot_tuple (pa_cons hs pa_nil (star_fine fz _ _)) (by decide) g2 (star_fine fz _ _) rfl
  refine PS.mono (ps_expr (pe_bm PySem.F.plainAttrs_list PySem.F.slot_list_append PySem.F.type_list_append mt_append (e_var hX.f h1) (pa_cons ht pa_nil (star_fine rfl _ _)) rfl (few1 rfl _ _) h2 (star_fine rfl _ _) rfl)) fun D σ H ⟨DF, G, ρ, p, e, F, ev, ks⟩ => ?_
  rw [evS] at ev
  obtain ⟨o, e1, ev⟩ := slotO_inv ev
  obtain ⟨ds, rfl, ev⟩ := asL_inv ev
  obtain ⟨d, e2, ev⟩ := slotV_inv ev
  obtain ⟨ys, hd, hc, hz, hp⟩ := asS_inv ev
  obtain ⟨a, xs, s1, s2, r, nd⟩ := own_at F e1
  refine ⟨.ref a, s1, .inl ⟨rfl, xs, SqL.of s2⟩, DF, G, ρ, d, ys, F, e2, hd, hc, fun b H' G' zs F' g n1 n2 eb rb => ?_⟩
  refine ⟨b, zs, rfl, .inl ⟨SqL.of eb, fun l ob hl' hdn => ?_⟩⟩
  obtain ⟨F2, g2, e3⟩ := F'.freeze (o := .frz ob (.tup zs)) hl'
  have s3 := (g.trans g2).keep a _ s2 trivial nd
  refine ⟨a, xs, .ref l, rfl, rfl, s3, ?_, ks.nx _ _ _ _ _ hp (F2.wr e1 s1 ((r.mono (g.trans g2).sub).append (.cons (.tup (.inl ⟨ob, e3, hdn⟩) (rb.mono g2.sub)) .nil))) (g.trans g2).sub⟩
  rw [r.length]
  exact Nat.lt_of_lt_of_le hz line_lim
theorem mSeti_inv {i : Nat} {f g : Expr → Bool} {st : Stmt} (h : mSeti N S i f g st = true) : ∃ x p a q e r, st = .Assign [.Subscript (.Name x p) a q] e r ∧ mNm N S i (.Name x p) = true ∧ lcB e = false ∧ f a = true ∧ g e = true := by
  unfold mSeti at h; split at h
  · obtain ⟨h1, h2⟩ := both h
    obtain ⟨h2, h3⟩ := both h2
    exact ⟨_, _, _, _, _, _, rfl, h1, by simpa using h2, both h3⟩
  · cases h
theorem asg_sub {o b : Expr} {q : Pos} (h : fineX b = true) (env : PySem.Env) : ∀ v, assign (.Subscript o b q) env v = (do
      let ov ← holding [v] (eval o env)
      let iv ← holding [v, ov] (eval b env)
      standAt q
      holding [v, ov, iv] (setItem ov iv v)
      release [v, ov, iv] []) := fun v => by
  cases b <;> first | rfl | cases h
theorem s_seti (hX : Cxs P C fns cs N X S W) {i : Nat} {a c : CE} {st : Stmt} (h : mSeti N S i (mtE fns cs N S a) (mtE fns cs N S c) st = true) : PS X st (tS P C W (.seti i a c)) := by
  obtain ⟨x, p, b, q, e, r, rfl, h1, h2, h3, h4⟩ := mSeti_inv h
  refine PS.mono (ps_asg ((okE (P := P) (C := C) c).v hX.f h4) (pg_sub (e_var hX.f h1) ((okE (P := P) (C := C) a).v hX.f h3) set_list (asg_sub (mtE_fine h3) _)) (by rw [swapsWithSole]; exact swaps_no h2 _ _ _) (by cases e <;> rfl) rfl) fun D σ H ⟨DF, G, ρ, p, e, F, ev, ks⟩ => ?_
  rw [evS] at ev
  refine ⟨DF, G, ρ, _, _, F, ev, fun v H1 G1 d hd F1 g1 r1 => ?_, ks.kx⟩
  obtain ⟨o, e1, hd⟩ := slotO_inv hd
  replace hd := asL_inv hd
  obtain ⟨ds, rfl, hd⟩ := hd
  obtain ⟨a, xs, s1, s2, r, nd⟩ := own_at F1 e1
  refine ⟨.ref a, s1, DF, G1, ρ, _, _, F1, hd, fun u H2 G2 d2 hd2 F2 g2 r2 => ?_, ks.kx.step g1⟩
  replace hd2 := asI_inv hd2
  obtain ⟨n, rfl, hd2⟩ := hd2
  have : ∃ j, ixN ds.length n = some j ∧ p (.nx (ρ.set i (.own (.list (ds.set j d))))) := by
    cases hj : ixN ds.length n with
    | none => rw [hj] at hd2; exact hd2.elim
    | some j => rw [hj] at hd2; exact ⟨j, rfl, hd2⟩
  obtain ⟨j, hj, hp⟩ := this
  cases r2
  refine ⟨a, xs, n, j, rfl, rfl, g2.keep a _ s2 trivial nd, by rw [r.length]; exact hj, ks.nx _ _ _ _ _ hp (F2.wr e1 s1 (Rps.set (r1.mono g2.sub) j (r.mono g2.sub))) (g1.sub.trans g2.sub)⟩
/-! ### small rows -/
theorem s_ex (hX : Cxs P C fns cs N X S W) {c : CE} {st : Stmt} (h : mEx (mtE fns cs N S c) st = true) : PS X st (tS P C W (.ex c)) := by
  unfold mEx at h; split at h
  · rename_i e q
    obtain ⟨h1, h2⟩ := both h
    refine PS.mono (ps_expr ((okE (P := P) (C := C) c).v hX.f h2) (swaps_no (by simpa using h1) _ _ _)) fun D σ H ⟨DF, G, ρ, p, e, F, ev, ks⟩ => ?_
    rw [evS] at ev
    exact ⟨DF, G, ρ, _, _, F, ev, fun v H1 G1 d hd F1 g1 r1 => ks.nx _ _ _ _ _ hd F1 g1.sub, ks.kx⟩
  · cases h
theorem s_ret (hX : Cxs P C fns cs N X S W) {c : CE} {st : Stmt} (h : mRet (isNo c) (mtE fns cs N S c) st = true) : PS X st (tS P C W (.ret c)) := by
  unfold mRet at h; split at h
  · refine PS.mono (ps_ret ((okE (P := P) (C := C) c).v hX.f h)) fun D σ H ⟨DF, G, ρ, p, e, F, ev, ks⟩ => ?_
    rw [evS] at ev
    exact ⟨DF, G, ρ, _, _, F, ev, fun v H1 G1 d hd F1 g1 r1 => ks.rt _ _ _ _ _ _ _ hd F1 g1.sub r1, ks.kx⟩
  · obtain rfl := isNo_inv h
    refine PS.mono ps_retN fun D σ H ⟨DF, G, ρ, p, e, F, ev, ks⟩ => ?_
    exact ks.rt .none ρ σ H DF G .non ev F (Sub.refl _) .non
  · cases h
theorem s_never {st : Stmt} : PS X st (tS P C W .never) := PS.mono ps_never fun D σ H ⟨DF, G, ρ, p, e, F, ev, ks⟩ => ev
theorem s_brk {st : Stmt} (h : mBrk st = true) : PS X st (tS P C W .brk) := by
  unfold mBrk at h; split at h
  · exact PS.mono ps_break fun D σ H ⟨DF, G, ρ, p, e, F, ev, ks⟩ => ks.bk _ _ _ _ _ ev F (Sub.refl _)
  · cases h
theorem s_cont {st : Stmt} (h : mCon st = true) : PS X st (tS P C W .cont) := by
  unfold mCon at h; split at h
  · exact PS.mono ps_continue fun D σ H ⟨DF, G, ρ, p, e, F, ev, ks⟩ => ks.ct _ _ _ _ _ ev F (Sub.refl _)
  · cases h
theorem s_ifs (hX : Cxs P C fns cs N X S W) {t : CE} {a b : CSs} {st : Stmt} {g k : List Stmt → Bool} (h : mIf (fun x => tstB t && mtE fns cs N S t x) g k st = true) (ha : ∀ ss, g ss = true → PSs X ss (tSs P C W a)) (hb : ∀ ss, k ss = true → PSs X ss (tSs P C W b)) : PS X st (tS P C W (.ifs t a b)) := by
  unfold mIf at h; split at h
  · obtain ⟨h1, h2⟩ := both h
    obtain ⟨h1, h3⟩ := both h1
    obtain ⟨h2, h4⟩ := both h2
    refine PS.mono (ps_if ((okE (P := P) (C := C) t).t hX.f h1 h3).1 (ha _ h2) (hb _ h4)) fun D σ H ⟨DF, G, ρ, p, e, F, ev, ks⟩ => ?_
    rw [evS] at ev
    refine ⟨DF, G, ρ, _, _, F, ev, fun c H1 G1 hd F1 g1 => ?_, ks.kx⟩
    cases c with
    | true => rw [if_pos rfl] at hd ⊢; exact ⟨DF, G1, ρ, p, e, F1, hd, ks.step g1.sub⟩
    | false => rw [if_neg (by decide)] at hd ⊢; exact ⟨DF, G1, ρ, p, e, F1, hd, ks.step g1.sub⟩
  · cases h
/-! ### loops -/
theorem s_whl (hX : Cxs P C fns cs N X S W) {t : CE} {b : CSs} {st : Stmt} {g : List Stmt → Bool} (h : mWhl (fun x => tstB t && mtE fns cs N S t x) g st = true) (hb : ∀ ss, g ss = true → PSs X ss (tSs P C W b)) : PS X st (tS P C W (.whl t b)) := by
  unfold mWhl at h; split at h
  · obtain ⟨h1, h2⟩ := both h
    obtain ⟨h1, h3⟩ := both h1
    refine PS.mono (ps_while hX.po ((okE (P := P) (C := C) t).t hX.f h1 h3).1 (hb _ h2)) fun D σ H ⟨DF, G, ρ, p, e, F, ev, ks⟩ => ?_
    rw [evS] at ev
    obtain ⟨M, ⟨n0, m0⟩, step⟩ := ev
    refine ⟨fun n σ H => ∃ DF' G' ρ', FrD P DF' σ ρ' G' H ∧ Sub G G' ∧ M n ρ', ⟨n0, DF, G, ρ, F, Sub.refl _, m0⟩, ?_⟩
    rintro n σ1 H1 ⟨DF1, G1, ρ1, F1, s1, m1⟩
    refine ⟨DF1, G1, ρ1, _, _, F1, step n ρ1 m1, fun c H2 G2 hd F2 g2 => ?_, (ks.step s1).kx⟩
    cases c with
    | true =>
      rw [if_pos rfl] at hd ⊢
      refine ⟨fun σ' H' => ∃ m', m' < n ∧ ∃ DF' G' ρ', FrD P DF' σ' ρ' G' H' ∧ Sub G G' ∧ M m' ρ', fun σ' H' hN => hN, DF1, G2, ρ1, _, e, F2, hd, ?_⟩
      have nn : ∀ ρ' σ' H' DF' G', (∃ m, m < n ∧ M m ρ') → FrD P DF' σ' ρ' G' H' → Sub G2 G' → ∃ m', m' < n ∧ ∃ DF' G' ρ', FrD P DF' σ' ρ' G' H' ∧ Sub G G' ∧ M m' ρ' := fun ρ' σ' H' DF' G' ⟨m, hm, hM⟩ F' s' => ⟨m, hm, DF', G', ρ', F', s1.trans (g2.sub.trans s'), hM⟩
      have k2 := ks.step (s1.trans g2.sub)
      exact ⟨nn, fun ρ' σ' H' DF' G' hp F' s' => k2.nx _ _ _ _ _ hp F' s', nn, fun d ρ' σ' H' DF' G' v hp F' s' r => k2.rt _ _ _ _ _ _ _ hp F' s' r, k2.ex⟩
    | false =>
      rw [if_neg (by decide)] at hd ⊢
      exact ks.nx _ _ _ _ _ hd F2 (s1.trans g2.sub)
  · cases h
theorem s_fors (hX : Cxs P C fns cs N X S W) {tg : Tg} {it : CI} {b : CSs} {ws : List Nat} {st : Stmt} {g : List Stmt → Bool} (h : mFor N S tg (fun x => noBo it && mtI fns cs N S it x) g st = true) (hb : ∀ ss, g ss = true → PSs X ss (tSs P C W b)) : PS X st (tS P C W (.fors tg it b ws)) := by
  unfold mFor at h; split at h
  · obtain ⟨h1, h2⟩ := both h
    obtain ⟨h2, h3⟩ := both h2
    obtain ⟨h2, h4⟩ := both h2
    refine PS.mono (ps_for hX.po hX.f.o.calm (okI (P := P) (C := C) it hX.f (b := false) (.inr h2) h4) (pg_ok hX.f (fun x _ => hX.fn x) h1) (hb _ h3) (nofold (fine_I h4) _)) fun D σ H ⟨DF, G, ρ, p, e, F, ev, ks⟩ => ?_
    rw [evS] at ev
    refine ⟨DF, G, ρ, _, _, F, ev, fun J H1 G1 as hp F1 g1 itd => ?_, ks.kx⟩
    refine ⟨fun i m σ2 H2 => m = as.length - i ∧ i ≤ as.length ∧ ∃ DF2 G2 ρ2, FrD P DF2 σ2 ρ2 G2 H2 ∧ Sub G1 G2 ∧ forL tg ws (fun ρ1 q => evSs C b ρ1 q e) (as.drop i) ρ2 p, ⟨as.length, rfl, Nat.zero_le _, DF, G1, ρ, F1, Sub.refl _, hp⟩, ?_⟩
    rintro i m σ2 H2 ⟨rfl, hi, DF2, G2, ρ2, F2, s2, hf⟩
    have it2 : ItD false P.K DF2 G2 H2 J as := itd.sub s2
    by_cases hlt : i < as.length
    · refine .inr ⟨it2.go F2.sub hlt, fun σ3 H3 => ∃ DF3 G3 ρ3, FrD P DF3 σ3 ρ3 G3 H3 ∧ Sub G1 G3 ∧ forL tg ws (fun ρ1 q => evSs C b ρ1 q e) (as.drop (i + 1)) ρ3 p, fun σ3 H3 h3 => ⟨as.length - (i + 1), by omega, rfl, hlt, h3⟩, fun x H3 hy => ?_⟩
      obtain ⟨rfl, d, hd, rx⟩ := it2.yld F2.sub hlt hy
      rw [drop_get hd, forL] at hf
      refine gT_ok tg F2 rx hf fun σ3 ρ3 hev F3 _ _ => ⟨DF2, G2, ρ3, _, e, F3, hev, ?_⟩
      have k2 := ks.step (g1.sub.trans s2)
      have nn : ∀ ρ' σ' H' DF' G', forL tg ws (fun ρ1 q => evSs C b ρ1 q e) (as.drop (i + 1)) (wipeE ρ' ws) p → FrD P DF' σ' ρ' G' H' → Sub G2 G' → ∃ DF3 G3 ρ3, FrD P DF3 σ' ρ3 G3 H' ∧ Sub G1 G3 ∧ forL tg ws (fun ρ1 q => evSs C b ρ1 q e) (as.drop (i + 1)) ρ3 p :=
        fun ρ' σ' H' DF' G' hl F' s' => ⟨DF', G', wipeE ρ' ws, F'.drops ws, s2.trans s', hl⟩
      exact ⟨nn, fun ρ' σ' H' DF' G' hp F' s' => k2.nx _ _ _ _ _ hp (F'.drops ws) s', nn, fun d ρ' σ' H' DF' G' v hp F' s' r => k2.rt _ _ _ _ _ _ _ hp F' s' r, k2.ex⟩
    · obtain rfl : i = as.length := by omega
      rw [List.drop_length, forL] at hf
      exact .inl ⟨it2.stop F2.sub, ks.nx _ _ _ _ _ hf F2 (g1.sub.trans s2)⟩
  · cases h
end
end Pv
set_option Elab.async false
set_option linter.all false
set_option maxRecDepth 100000
set_option maxHeartbeats 4000000
/-! Core 14: rows of several names; blocks of rows. Own work. -/
set_option autoImplicit false
namespace Pv
open PySem PySem.Spec L2

theorem dups2 {x y : Str} (hxy : x ≠ y) : ([x, y] : List Str).eraseDups = [x, y] := by
  have : (y == x) = false := by simpa using Ne.symm hxy
  simp [List.eraseDups, List.eraseDupsBy, List.eraseDupsBy.loop, this]
theorem dups3 {x y z : Str} (hxy : x ≠ y) (hxz : x ≠ z) (hyz : y ≠ z) : ([x, y, z] : List Str).eraseDups = [x, y, z] := by
  have h1 : (y == x) = false := by simpa using Ne.symm hxy
  have h2 : (z == x) = false := by simpa using Ne.symm hxz
  have h3 : (z == y) = false := by simpa using Ne.symm hyz
  simp [List.eraseDups, List.eraseDupsBy, List.eraseDupsBy.loop, h1, h2, h3]
theorem sw2 {env : PySem.Env} {x y : Str} {px py pt p2 : Pos} {kt k2 : Nat} {v w : Expr} (hb : env.blockKind = .function) (kx : env.kindOf x = some .local) (ky : env.kindOf y = some .local) (hl : py.line = px.line) (hxy : x ≠ y)
    (g1 : [v, w].all (foldedForSure 8) = false) (g2 : [v, w].all (constantsAlone 8) = false) (f : ∀ e ∈ [v, w], fineX e = true) : swappedStores [.Tuple [.Name x px, .Name y py] kt pt] (.Tuple [v, w] k2 p2) env = pure (some [x, y]) := by
  have hd := dups2 hxy
  unfold swappedStores
  dsimp only
  rw [if_neg (by simp [hb])]
  split
  · rename_i h
    obtain ⟨e, m, q⟩ := List.any_eq_true.mp h
    have := f e m
    cases e <;> first | (cases this; done) | (cases q; done)
  · split
    · rename_i h
      simp [kx, ky, hl, hd, Expr.pos] at h
    · rw [if_neg (by rw [g1]; decide), if_neg (by rw [g2]; decide)]
      simp [kx, ky, hl, Expr.pos]
theorem sw3 {env : PySem.Env} {x y z : Str} {px py pz pt p2 : Pos} {kt k2 : Nat} {v w u : Expr} (hb : env.blockKind = .function) (kx : env.kindOf x = some .local) (ky : env.kindOf y = some .local) (kz : env.kindOf z = some .local) (hl : py.line = px.line) (hl3 : pz.line = px.line)
    (hxy : x ≠ y) (hxz : x ≠ z) (hyz : y ≠ z) (g1 : [v, w, u].all (foldedForSure 8) = false) (g2 : [v, w, u].all (constantsAlone 8) = false) (f : ∀ e ∈ [v, w, u], fineX e = true) :
    swappedStores [.Tuple [.Name x px, .Name y py, .Name z pz] kt pt] (.Tuple [v, w, u] k2 p2) env = pure (some [x, y, z]) := by
  have hd := dups3 hxy hxz hyz
  unfold swappedStores
  dsimp only
  rw [if_neg (by simp [hb])]
  split
  · rename_i h
    obtain ⟨e, m, q⟩ := List.any_eq_true.mp h
    have := f e m
    cases e <;> first | (cases this; done) | (cases q; done)
  · split
    · rename_i h
      simp [kx, ky, kz, hl, hl3, hd, Expr.pos] at h
    · rw [if_neg (by rw [g1]; decide), if_neg (by rw [g2]; decide)]
      simp [kx, ky, kz, hl, hl3, Expr.pos]
/-- the flagged ones -/
def flg : List Bool → List V → List V
  | true :: fl, v :: vs => v :: flg fl vs
  | false :: fl, _ :: vs => flg fl vs
  | _, _ => []
/-- values, and (flagged) new lists; H: the heap before -/
inductive Rfs (K : PySem.W.Frag) (H G' H' : Hp) : List Bool → List V → List PyData → Prop
  | nil : Rfs K H G' H' [] [] []
  | v {fl vs ds v d} : Rp K G' v d → Rfs K H G' H' fl vs ds → Rfs K H G' H' (false :: fl) (v :: vs) (d :: ds)
  | o {fl vs ds a xs ys} : Fr0 H a → G' a = none → H' a = some (.lst xs) → Rps K G' xs ys → V.ref a ∉ flg fl vs → Rfs K H G' H' fl vs ds → Rfs K H G' H' (true :: fl) (.ref a :: vs) (.list ys :: ds)
section
variable {P : Px} {C : Orc} {fns : List Str} {cs : List (Str × PyData)} {N : List Str} {X : Cx} {S : Scope} {W : WX}
theorem Rfs.new {K : PySem.W.Frag} {H G' H' : Hp} : ∀ {fl : List Bool} {vs : List V} {ds : List PyData} {a : Addr}, Rfs K H G' H' fl vs ds → V.ref a ∈ flg fl vs → Fr0 H a
  | _, _, _, a, .nil, m => by cases m
  | _, _, _, a, .v _ r, m => Rfs.new r m
  | _, _, _, a, .o h _ _ _ _ r, m => by
    rcases List.mem_cons.mp m with e | m
    · cases e; exact h
    · exact Rfs.new r m
theorem Rfs.weak {K : PySem.W.Frag} {H H0 G' H' : Hp} (l : ∀ a, Fr0 H a → Fr0 H0 a) : ∀ {fl : List Bool} {vs : List V} {ds : List PyData}, Rfs K H G' H' fl vs ds → Rfs K H0 G' H' fl vs ds
  | _, _, _, .nil => .nil
  | _, _, _, .v h r => .v h (Rfs.weak l r)
  | _, _, _, .o a b c d e r => .o (l _ a) b c d e (Rfs.weak l r)
def tPa (P : Px) (C : Orc) (W : WX) (fl : List Bool) (c : CEs) : TA := fun σ H Q => ∃ DF G ρ p e, FrD P DF σ ρ G H ∧ evEs C c ρ p e ∧ (∀ vs H' G' ds, p ds → FrD P DF σ ρ G' H' → Gr P.T DF G H G' H' → Rfs P.K H G' H' fl vs ds → Q vs H') ∧ KX P W DF σ ρ G H e
theorem pa_ok (hX : Cxf P C fns cs N X S W) : ∀ (is : List (Nat × Bool)) (c : CEs) (es : List Expr), mtPs fns cs N S is c es = true → PA X es (tPa P C W (is.map (·.2)) c) ∧ ∀ e ∈ es, fineX e = true
  | [], .nil, es, h => by
    rw [mtPs] at h
    rw [isNil_inv h]
    exact ⟨PA.mono pa_nil fun σ H Q ⟨DF, G, ρ, p, e, F, ev, k, kx⟩ => k _ _ _ _ ev F (Gr.refl _ _ _ _) .nil, fun _ m => by cases m⟩
  | [], .cons _ _, es, h => by cases (show false = true from h)
  | i :: is, .nil, es, h => by cases (show false = true from h)
  | (i, fl) :: is, .cons a c, es, h => by
    rw [mtPs] at h
    obtain ⟨x, xs, rfl, h1, h2⟩ := mCons_inv h
    obtain ⟨h1, h3⟩ := both h1
    obtain ⟨ih, ifx⟩ := pa_ok hX is c xs h2
    have fx := mtE_fine h3
    refine ⟨?_, fun e m => (List.mem_cons.mp m).elim (fun z => z ▸ fx) (ifx e)⟩
    cases fl with
    | false =>
      refine PA.mono (pa_cons ((okE a).v hX h3) ih (star_fine fx _ _)) fun σ H Q ⟨DF, G, ρ, p, e, F, ev, k, kx⟩ => ?_
      rw [evEs] at ev
      exact ⟨DF, G, ρ, _, e, F, ev, fun v H1 G1 d hd F1 g1 r1 => ⟨DF, G1, ρ, _, e, F1, hd, fun vs H2 G2 ds hd2 F2 g2 rs =>
        k _ _ _ _ hd2 F2 (g1.trans g2) (.v (r1.mono g2.sub) (rs.weak fun a n => g1.live a n)), KX.step kx g1⟩, kx⟩
    | true =>
      have hf : frB a = true := by simpa using h1
      refine PA.mono (pa_cons ((okE a).f hX hf h3) ih (star_fine fx _ _)) fun σ H Q ⟨DF, G, ρ, p, e, F, ev, k, kx⟩ => ?_
      rw [evEs] at ev
      refine ⟨DF, G, ρ, _, e, F, ev, fun b xs H1 G1 d hd F1 g1 n1 n2 e1 r1 => ⟨DF, G1, ρ, _, e, F1, hd, fun vs H2 G2 ds hd2 F2 g2 rs => ?_, KX.step kx g1⟩, kx⟩
      have e2 := g2.keep b _ e1 trivial (F.notDF n1)
      have n3 : G2 b = none := by
        cases q : G2 b with
        | none => rfl
        | some o =>
          rcases g2.new b o q with z | z
          · rw [n2] at z; cases z
          · exact (z.no e1).elim
      exact k _ _ _ _ hd2 F2 (g1.trans g2) (.o n1 n3 e2 (r1.mono g2.sub) (fun m => (rs.new m).no e1) (rs.weak fun a n => g1.live a n))
/-- the slots set, from the left -/
def setVs : List Nat → List V → L2.St → L2.St
  | i :: is, v :: vs, σ => setVs is vs (σ.set i (some v))
  | _, _, σ => σ
theorem sets_ok {DF : DFt} {G H H0 : Hp} {k : Env → Prop} (h0 : ∀ a, Fr0 H0 a → Fr0 P.H0 a ∧ NotIn a DF) : ∀ (is : List (Nat × Bool)) {vs : List V} {ds : List PyData} {σ : L2.St} {ρ : Env}, FrD P DF σ ρ G H → Rfs P.K H0 G H (is.map (·.2)) vs ds →
    (∀ a, V.ref a ∈ flg (is.map (·.2)) vs → ∀ (j : Nat) d, ρ[j]? = some (.own d) → σ[j]? ≠ some (some (.ref a))) → setsL is ds ρ k → ∃ ρ', k ρ' ∧ FrD P DF (setVs (is.map (·.1)) vs σ) ρ' G H ∧ vs.length = is.length
  | [], vs, ds, σ, ρ, F, r, no, h => by
    cases r
    exact ⟨ρ, h, F, rfl⟩
  | (i, fl) :: is, vs, ds, σ, ρ, F, r, no, h => by
    cases r with
    | v r1 r2 =>
      obtain ⟨ρ', a, b, c⟩ := sets_ok h0 is (F.setv (i := i) r1) r2 (fun a m j d e => by
        rw [get_set] at e ⊢
        rw [← F.len]
        split at e
        · cases e
        · rename_i n; rw [if_neg n]; exact no a m j d e) h
      exact ⟨ρ', a, b, by rw [List.length_cons, c]; rfl⟩
    | @o _ vs ds a xs ys n1 n2 e1 r1 nm r2 =>
      have na := no a List.mem_cons_self
      obtain ⟨ρ', p, q, c⟩ := sets_ok h0 is (F.setO (i := i) n2 (h0 a n1).1 (h0 a n1).2 e1 r1 na) r2 (fun b m j d e => by
        rw [get_set] at e ⊢
        rw [← F.len]
        split at e
        · rename_i n
          rw [if_pos n]
          intro z
          cases z
          exact nm m
        · rename_i n
          rw [if_neg n]; exact no b (List.mem_cons_of_mem _ m) j d e) h
      exact ⟨ρ', p, q, by rw [List.length_cons, c]; rfl⟩
theorem par_ok {is : List (Nat × Bool)} {c : CEs} {D : Ends} {σ : L2.St} {H : Hp} (h : tS P C W (.par is c) D σ H) : tPa P C W (is.map (·.2)) c σ H (fun vs H1 => vs.length = is.length ∧ D.nx (setVs (is.map (·.1)) vs σ) H1) := by
  obtain ⟨DF, G, ρ, p, e, F, ev, ks⟩ := h
  rw [evS] at ev
  refine ⟨DF, G, ρ, _, _, F, ev, fun vs H' G' ds hd F' g r => ?_, ks.kx⟩
  obtain ⟨ρ', h1, h2, h3⟩ := sets_ok (H0 := H) (fun a n => F.h0 n) is F' r (fun a m j d q => F.notOwn (r.new m) j d q) hd
  exact ⟨h3, ks.nx _ _ _ _ _ h1 h2 g.sub⟩
theorem setsL_flat {k : Env → Prop} : ∀ (is : List (Nat × Bool)) {ds : List PyData} {ρ : Env}, (is.all fun i => !i.2) = true → setsL is ds ρ k → ds.length = (is.map (·.1)).length ∧ k (setAll (is.map (·.1)) ds ρ)
  | [], [], ρ, _, h => ⟨rfl, h⟩
  | [], _ :: _, ρ, _, h => by simp only [setsL] at h
  | _ :: _, [], ρ, _, h => by simp only [setsL] at h
  | (i, b) :: is, d :: ds, ρ, ha, h => by
    rw [List.all_cons] at ha
    obtain ⟨h1, h2⟩ := both ha
    have hb : b = false := by simpa using h1
    subst hb
    rw [setsL_c, if_neg (by decide)] at h
    obtain ⟨h3, h4⟩ := setsL_flat is h2 h
    exact ⟨by rw [List.length_cons, h3]; rfl, h4⟩
theorem tgL_len {is : List Nat} {ts : List Expr} {k : Nat} {p : Pos} (h : tgB N S S (.tp is) (.Tuple ts k p) = true) : ts.length = is.length := by
  have key : ∀ (is : List Nat) (es : List Expr), tgB.tgL N S S is es = true → es.length = is.length := by
    intro is
    induction is with
    | nil =>
      intro es h
      cases es with
      | nil => rfl
      | cons _ _ => cases h
    | cons i is ih =>
      intro es h
      cases es with
      | nil => cases h
      | cons e es =>
        unfold tgB.tgL at h
        split at h
        · rename_i h0 h1; cases h0
        · rename_i i' is' x p es' h0 h1
          cases h0; cases h1
          rw [List.length_cons, List.length_cons, ih _ (both h).2]
        · cases h
  exact key is ts h
theorem fm_all {α β : Type} {f : α → Option β} : ∀ {l : List α}, (l.filterMap f).length = l.length → ∀ x ∈ l, (f x).isSome = true
  | [], _, x, m => by cases m
  | a :: l, h, x, m => by
    have hle := List.length_filterMap_le f l
    rw [List.filterMap_cons] at h
    cases e : f a with
    | none => rw [e] at h; simp at h; omega
    | some b =>
      rw [e] at h
      rcases List.mem_cons.mp m with rfl | m
      · rw [e]; rfl
      · exact fm_all (by simpa using h) x m
theorem s_parT (hX : Cxs P C fns cs N X S W) {is : List (Nat × Bool)} {c : CEs} {st : Stmt} (h : mParT N S (is.map (·.1)) (fun xs => (is.all fun i => !i.2) && (decide (cesLen c ≤ 1000) && mtEs fns cs N S c xs)) st = true) : PS X st (tS P C W (.par is c)) := by
  unfold mParT at h; split at h
  · rename_i ts kt p vs k2 p2 q
    obtain ⟨h1, h2⟩ := both h
    obtain ⟨h2, h3⟩ := both h2
    obtain ⟨h3, h4⟩ := both h3
    obtain ⟨h4, h5⟩ := both h4
    have hw : swappedStores [.Tuple ts kt p] (.Tuple vs k2 p2) X.env = pure none := by
      unfold swappedStores
      dsimp only
      split
      · rfl
      · rename_i g1
        split
        · rfl
        · split
          · rfl
          · split
            · rfl
            · rename_i g4
              rw [Bool.or_eq_true, Bool.or_eq_true] at h2
              rcases h2 with h2 | h2 | h2
              · exact absurd h2 g4
              · exfalso
                have hl := tgL_len h1
                have h4 := dec h2
                rw [← hl] at h4
                have e2 : (ts.length == 2) = false := by simp; omega
                have e3 : (ts.length == 3) = false := by simp; omega
                rw [e2, e3] at g1
                exact g1 rfl
              · exfalso
                rename_i g2 g3
                obtain ⟨x, m, hx⟩ := List.any_eq_true.mp h2
                rw [Bool.or_eq_true, not_or] at g3
                have g3 := g3.1
                simp only [bne_iff_ne, ne_eq, Decidable.not_not] at g3
                have := fm_all g3 x m
                cases x with
                | Name id q =>
                  have hk : X.env.kindOf id ≠ some .local := fun z => by
                    have z : X.env.scope.names.lookup id = some .local := z
                    rw [hX.f.o.sc] at z
                    simp [loclB, z] at hx
                  simp [hk] at this
                | _ => cases hx
    refine PS.mono (ps_asg (e_tup (c := k2) (p := p2) (dec h4) (okEs (P := P) (C := C) c hX.f h5)) (pg_ok hX.f (fun x _ => hX.fn x) h1) (by rw [swapsWithSole]; rfl) hw rfl) fun D σ H ⟨DF, G, ρ, p, e, F, ev, ks⟩ => ?_
    rw [evS] at ev
    refine ⟨DF, G, ρ, fun d => asT d fun ds => setsL is ds ρ fun ρ1 => p (.nx ρ1), _, F, ev, fun v H' G' d hd F' g r => ?_, ks.kx⟩
    replace hd := asT_inv hd
    obtain ⟨ds, rfl, hd⟩ := hd
    obtain ⟨k1, k2⟩ := setsL_flat is h3 hd
    exact gT_ok (.tp (is.map (·.1))) (k := fun ρ' => p (.nx ρ')) F' r ⟨k1, k2⟩ fun σ' ρ' hk F2 _ _ => ks.nx _ _ _ _ _ hk F2 g.sub
  · cases h
theorem locs_cons {i : Nat} {is : List Nat} {ts : List Expr} (h : locs N S (i :: is) ts = true) : ∃ x p r, ts = .Name x p :: r ∧ N[i]? = some x ∧ S.names.lookup x = some .local ∧ locs N S is r = true := by
  cases ts with
  | nil => cases h
  | cons t r =>
    unfold locs at h
    split at h
    · rename_i h0 _; cases h0
    · rename_i i' is' x p r' h0 h1
      cases h0; cases h1
      obtain ⟨h1, h2⟩ := both h
      obtain ⟨h1, h3⟩ := both h1
      refine ⟨x, p, _, rfl, ?_, ?_, h2⟩
      · unfold ixB at h1
        split at h1
        · rename_i y e; rw [e, dec h1]
        · cases h1
      · unfold loclB at h3
        split at h3
        · assumption
        · cases h3
    · cases h
theorem locs_nil {ts : List Expr} (h : locs N S [] ts = true) : ts = [] := by
  cases ts with
  | nil => rfl
  | cons t r => cases h
theorem nd_ne {i j : Nat} {x y : Str} (nd : N.Nodup) (h : i ≠ j) (hi : N[i]? = some x) (hj : N[j]? = some y) : x ≠ y := fun e => h (nodup_ix nd hi (e ▸ hj))
theorem fine_star {e : Expr} (h : fineX e = true) : (match e with | .Starred _ _ => true | _ => false) = false := by cases e <;> first | rfl | cases h
theorem s_par (hX : Cxs P C fns cs N X S W) {is : List (Nat × Bool)} {c : CEs} {st : Stmt} (h : mPar N S (is.map (·.1)) (mtPs fns cs N S is c) st = true) : PS X st (tS P C W (.par is c)) := by
  unfold mPar at h; split at h
  · rename_i ts kt pt vs k2 p2 q
    obtain ⟨h1, h2⟩ := both h
    obtain ⟨h1, h3⟩ := both h1
    obtain ⟨h1, h4⟩ := both h1
    obtain ⟨h3, h5⟩ := both h3
    obtain ⟨h5, h6⟩ := both h5
    obtain ⟨h2, h7⟩ := both h2
    obtain ⟨h2, h8⟩ := both h2
    obtain ⟨h8, h9⟩ := both h8
    obtain ⟨hpa, hfx⟩ := pa_ok (P := P) (C := C) hX.f is c vs h7
    have hsc := hX.f.o.sc
    have hN := hX.f.o.hN
    have hbk : X.env.blockKind = .function := by
      have : X.env.scope.kind = .function := by rw [hsc]; exact eq_of_beq h2
      unfold PySem.Env.blockKind
      rw [this]; rfl
    have hlen : vs.length = is.length := by rw [eq_of_beq h4, List.length_map]
    have hk : ∀ x, S.names.lookup x = some .local → X.env.kindOf x = some .local := fun x e => by show X.env.scope.names.lookup x = _; rw [hsc]; exact e
    have g1 : (vs.all (foldedForSure 8)) = false := by simpa using h8
    have g2 : (vs.all (constantsAlone 8)) = false := by simpa using h9
    match is, vs, hlen with
    | [], _, _ => cases h1
    | [a], _, _ => cases h1
    | [(i, bi), (j, bj)], [v, w], _ =>
      obtain ⟨x, px, r, rfl, n1, l1, hr⟩ := locs_cons h5
      obtain ⟨y, py, r, rfl, n2, l2, hr⟩ := locs_cons hr
      obtain rfl := locs_nil hr
      have hij : i ≠ j := by
        intro e
        subst e
        simp [nodupB] at h3
      have hxy := nd_ne (by rw [← hN]; exact hX.f.o.nd) hij n1 n2
      have hline : (py.line == px.line) = true := by simpa [onLine] using h6
      have hw := sw2 (kt := kt) (pt := pt) (k2 := k2) (p2 := p2) hbk (hk x l1) (hk y l2) (eq_of_beq hline) hxy g1 g2 hfx
      rw [← hN] at n1 n2
      refine PS.mono (ps_par hX.f.o.calm hX.f.o.nd n1 n2 hij (by rw [hsc]; exact l1) (by rw [hsc]; exact l2) hpa hw (by rw [swapsWithSole]; rfl)) fun D σ H q => ?_
      obtain ⟨DF, G, ρ, p, e, F, ev, k, kx⟩ := par_ok q
      refine ⟨DF, G, ρ, p, e, F, ev, fun us H' G' ds hd F' g r => ?_, kx⟩
      obtain ⟨hl, hn⟩ := k us H' G' ds hd F' g r
      match us, hl with
      | [u1, u2], _ => exact ⟨u1, u2, rfl, hn⟩
    | [(i, bi), (j, bj), (l, bl)], [v, w, u], _ =>
      obtain ⟨x, px, r, rfl, n1, l1, hr⟩ := locs_cons h5
      obtain ⟨y, py, r, rfl, n2, l2, hr⟩ := locs_cons hr
      obtain ⟨z, pz, r, rfl, n3, l3, hr⟩ := locs_cons hr
      obtain rfl := locs_nil hr
      have hij : i ≠ j := by
        intro e
        subst e
        simp [nodupB] at h3
      have hil : i ≠ l := by
        intro e
        subst e
        simp [nodupB] at h3
      have hjl : j ≠ l := by
        intro e
        subst e
        simp [nodupB] at h3
      have nd : N.Nodup := by rw [← hN]; exact hX.f.o.nd
      have hline : (py.line == px.line) = true ∧ (pz.line == px.line) = true := by simpa [onLine] using h6
      have hw := sw3 (kt := kt) (pt := pt) (k2 := k2) (p2 := p2) hbk (hk x l1) (hk y l2) (hk z l3) (eq_of_beq hline.1) (eq_of_beq hline.2) (nd_ne nd hij n1 n2) (nd_ne nd hil n1 n3) (nd_ne nd hjl n2 n3) g1 g2 hfx
      rw [← hN] at n1 n2 n3
      refine PS.mono (ps_par3 hX.f.o.calm hX.f.o.nd n1 n2 n3 hij hil hjl (by rw [hsc]; exact l1) (by rw [hsc]; exact l2) (by rw [hsc]; exact l3) hpa hw (by rw [swapsWithSole]; rfl)) fun D σ H q => ?_
      obtain ⟨DF, G, ρ, p, e, F, ev, k, kx⟩ := par_ok q
      refine ⟨DF, G, ρ, p, e, F, ev, fun us H' G' ds hd F' g r => ?_, kx⟩
      obtain ⟨hl, hn⟩ := k us H' G' ds hd F' g r
      match us, hl with
      | [u1, u2, u3], _ => exact ⟨u1, u2, u3, rfl, hn⟩
    | _ :: _ :: _ :: _ :: _, _, _ => simp at h1
  · cases h

/-! ### the whole -/
mutual
theorem okS : ∀ (s : CS) {X : Cx} {S : Scope} {W : WX} {st : Stmt}, Cxs P C fns cs N X S W → mtS fns cs N S s st = true → PS X st (tS P C W s)
  | .set i e, X, S, W, st, hX, h => by rw [mtS] at h; exact s_set hX h
  | .own i e, X, S, W, st, hX, h => by rw [mtS] at h; exact s_own hX h
  | .mks i f e, X, S, W, st, hX, h => by rw [mtS] at h; cases h
  | .unp is e, X, S, W, st, hX, h => by rw [mtS] at h; exact s_unp hX h
  | .par is es, X, S, W, st, hX, h => by
    rw [mtS] at h
    rw [Bool.or_eq_true] at h
    exact h.elim (s_par hX) (s_parT hX)
  | .aug o i e, X, S, W, st, hX, h => by rw [mtS] at h; exact s_aug hX h
  | .app i e, X, S, W, st, hX, h => by rw [mtS] at h; exact s_app hX h
  | .ext i e, X, S, W, st, hX, h => by rw [mtS] at h; exact s_ext hX h
  | .apps i j, X, S, W, st, hX, h => by rw [mtS] at h; exact s_apps hX h
  | .seti i a e, X, S, W, st, hX, h => by rw [mtS] at h; exact s_seti hX h
  | .pop _ _ _, X, S, W, st, hX, h => by rw [mtS] at h; cases h
  | .ex e, X, S, W, st, hX, h => by rw [mtS] at h; exact s_ex hX h
  | .ret e, X, S, W, st, hX, h => by rw [mtS] at h; exact s_ret hX h
  | .ifs t a b, X, S, W, st, hX, h => by rw [mtS] at h; exact s_ifs hX h (fun ss z => okSs a hX z) (fun ss z => okSs b hX z)
  | .whl t b, X, S, W, st, hX, h => by rw [mtS] at h; exact s_whl hX h (fun ss z => okSs b hX z)
  | .fors tg it b ws, X, S, W, st, hX, h => by rw [mtS] at h; exact s_fors hX h (fun ss z => okSs b hX z)
  | .brk, X, S, W, st, hX, h => by rw [mtS] at h; exact s_brk h
  | .cont, X, S, W, st, hX, h => by rw [mtS] at h; exact s_cont h
  | .frz _, X, S, W, st, hX, h => by rw [mtS] at h; cases h
  | .rai _ _, X, S, W, st, hX, h => by rw [mtS] at h; cases h
  | .never, X, S, W, st, hX, h => s_never
theorem okSs : ∀ (s : CSs) {X : Cx} {S : Scope} {W : WX} {st : List Stmt}, Cxs P C fns cs N X S W → mtSs fns cs N S s st = true → PSs X st (tSs P C W s)
  | .nil, X, S, W, st, hX, h => by
    rw [mtSs] at h
    have : st = [] := by
      cases st with
      | nil => rfl
      | cons _ _ => cases h
    subst this
    exact PSs.mono pss_nil fun D σ H ⟨DF, G, ρ, p, e, F, ev, ks⟩ => ks.nx _ _ _ _ _ ev F (Sub.refl _)
  | .cons s ss, X, S, W, st, hX, h => by
    rw [mtSs] at h
    replace h : (if isFrz s = true then mtSs fns cs N S ss st else consS (mtS fns cs N S s) (mtSs fns cs N S ss) st) = true := h
    by_cases hz : isFrz s = true
    · rw [if_pos hz] at h
      cases s with
      | frz i =>
        refine PSs.mono (okSs ss hX h) fun D σ H ⟨DF, G, ρ, p, e, F, ev, ks⟩ => ?_
        rw [evSs, evS] at ev
        obtain ⟨d, h1, h2⟩ := slotO_inv ev
        obtain ⟨G', sg, F'⟩ := F.frz h1
        exact ⟨DF, G', _, p, e, F', h2, ks.step sg⟩
      | _ => cases hz
    · rw [if_neg hz] at h
      cases st with
      | nil => cases h
      | cons x xs =>
        obtain ⟨h1, h2⟩ := both h
        refine PSs.mono (pss_cons (okS s hX h1) (okSs ss hX h2)) fun D σ H ⟨DF, G, ρ, p, e, F, ev, ks⟩ => ?_
        rw [evSs] at ev
        refine ⟨DF, G, ρ, _, e, F, ev, ⟨fun ρ' σ' H' DF' G' hp F' s' => ⟨DF', G', ρ', p, e, F', hp, ks.step s'⟩, fun ρ' σ' H' DF' G' hp F' s' => ks.bk _ _ _ _ _ hp F' s', fun ρ' σ' H' DF' G' hp F' s' => ks.ct _ _ _ _ _ hp F' s',
          fun d ρ' σ' H' DF' G' v hp F' s' r => ks.rt _ _ _ _ _ _ _ hp F' s' r, ks.ex⟩⟩
end
end
end Pv
set_option Elab.async false
set_option linter.all false
set_option maxRecDepth 100000
set_option maxHeartbeats 4000000
/-! Core 15: every function of the table keeps what its compact text promises. Own work. -/
set_option autoImplicit false
namespace Pv
open PySem PySem.Spec L2

/-- what is known of the module, from a head -/
structure Md (P : Px) (K : PySem.W.Frag) (mg : Str → Option Value) (cs : List (Str × PyData)) : Prop where
  K : K = P.K
  free : ∀ b ∈ (["len", "range", "min", "max", "abs", "sorted", "tuple", "list", "int", "isinstance", "set", "all", "any", "sum", "bool", "str", "dict"] : List Str), mg b = none
  gl : ∀ (k : Nat) (x : Str) (d : PyData), cs[k]? = some (x, d) → ∃ v u, mg x = some u ∧ RelV v u ∧ Rp P.K (fun _ => none) v d
abbrev FnP (K : PySem.W.Frag) (x : Str) (st : Stmt) (f : Addr) (fd : FuncData) : Prop := FunD K x x (defArgs st) (defBody st) (defScope st) [] [] f fd
/-- a function at hand, its promise by C -/
def CalM (P : Px) (C : Orc) (prog : Program) (w : World) (K : PySem.W.Frag) (mg : Str → Option Value) (base : Heap) (k : Nat) (f : Nat) (x : Str) : Prop :=
  ∃ (fa : Addr) (fd : FuncData) (ps : List Str), FnOk prog w K mg base (L2.CX prog w) k fa fd ps (spF P C f) ∧ mg x = some (.ref fa) ∧ PySem.W.keepIn K (.ref fa) = true ∧ Binds K fd ps []
section
variable {P : Px} {prog : Program} {w : World} {K : PySem.W.Frag} {mg : Str → Option Value} {base : Heap}
theorem RAs.len {K : PySem.W.Frag} {DF : DFt} {G : Hp} : ∀ {vs : List V} {ss : List Slot}, RAs K DF G vs ss → vs.length = ss.length
  | _, _, .nil => rfl
  | _, _, .cons _ r => by rw [List.length_cons, List.length_cons, RAs.len r]
theorem RAs.get {K : PySem.W.Frag} {DF : DFt} {G : Hp} : ∀ {vs : List V} {ss : List Slot} {i : Nat} {s : Slot}, RAs K DF G vs ss → ss[i]? = some s → ∃ v, vs[i]? = some v ∧ RA K DF G v s
  | _, _, _, _, .nil, e => by simp at e
  | _, _, 0, _, .cons a _, e => by simp at e; subst e; exact ⟨_, rfl, a⟩
  | _, _, i + 1, s, .cons _ b, e => by
    obtain ⟨v, h1, h2⟩ := RAs.get (i := i) (s := s) b (by simpa using e)
    exact ⟨v, by simpa using h1, h2⟩
/-- the frame at a def's entry -/
theorem start_fr {DF : DFt} {G H : Hp} {vs : List V} {sl : List Slot} {N : List Str} {n : Nat} (s : Sub G H) (d : DrOk G H DF) (tb : LamX.Tabs P.T H) (ra : RAs P.K DF G vs sl) (hl : sl.length = n) (hn : n ≤ N.length) :
    FrD { P with DF0 := DF, G0 := G, H0 := H } DF (L2.start N vs) (sl ++ List.replicate (N.length - n) .un) G H where
  len := by
    unfold L2.start
    rw [List.length_append, List.length_append, List.length_map, List.length_replicate, List.length_replicate, ra.len]
    omega
  sub := s
  sub0 := Sub.refl G
  new := fun _ _ e => .inl e
  keep0 := Keep.refl DF H
  df := .inl rfl
  slots := fun i t e => by
    by_cases hi : i < sl.length
    · rw [List.getElem?_append_left hi] at e
      obtain ⟨v, h1, h2⟩ := ra.get e
      have h3 : (L2.start N vs)[i]? = some (some v) := by
        unfold L2.start
        rw [List.getElem?_append_left (by rw [List.length_map, ra.len]; exact hi), List.getElem?_map, h1]
        rfl
      rw [h3]
      cases t with
      | v d => exact ⟨v, rfl, h2⟩
      | st =>
        obtain ⟨q, rfl, h5⟩ := h2
        exact ⟨q, rfl, h5⟩
      | _ => exact h2.elim
    · rw [List.getElem?_append_right (by omega), List.getElem?_replicate] at e
      split at e
      · cases e; trivial
      · cases e
  own1 := fun i j d d' p h1 _ _ _ => by
    exfalso
    by_cases hi : i < sl.length
    · rw [List.getElem?_append_left hi] at h1
      obtain ⟨v, _, h2⟩ := ra.get h1
      exact h2
    · rw [List.getElem?_append_right (by omega), List.getElem?_replicate] at h1
      split at h1 <;> cases h1
  dr := d
  live0 := fun _ e => e
  tab := tb
/-- from a def's frame back to its caller -/
theorem back_gr {DF DF' : DFt} {G H G' H' : Hp} {σ : L2.St} {ρ : Env} (F : FrD { P with DF0 := DF, G0 := G, H0 := H } DF' σ ρ G' H') : Gr P.T DF G H G' H' ∧ DrOk G' H' DF := by
  have hk : ∀ a o, H a = some o → noTbl o → NotIn a DF → NotIn a DF' := fun a o e nt n => by
    rcases F.df with e1 | ⟨e1, e2⟩
    · rw [e1]; exact n
    · cases hd : DF' with
      | none => trivial
      | some q =>
        obtain ⟨z1, z2⟩ := e2 q hd
        exact ⟨fun z => z1 o (by rw [← z]; exact e) nt, fun z => z2 o (by rw [← z]; exact e) nt⟩
  refine ⟨⟨F.sub0, fun a o e nt n => F.keep0 a o e nt (hk a o e nt n), F.new, F.live0, fun _ => F.tab⟩, ?_⟩
  · rcases F.df with e1 | ⟨e1, _⟩
    · have e1 : DF' = DF := e1
      rw [← e1]; exact F.dr
    · have e1 : DF = none := e1
      rw [e1]; exact ⟨F.dr.1, trivial⟩
theorem fn_code {T : List FnI} {fns : List Str} {cs : List (Str × PyData)} {i d : Nat} {nm : Str} {ps ns : List Str} {body : CSs} {st : Stmt} {f : Addr} {fd : FuncData} (M : Md P K mg cs)
    (hT : T[i]? = some ⟨nm, ps, ns, .code body⟩) (Fn : FnP K nm st f fd) (sc : FnScope ns ps (defScope st)) (hm : mtSs fns cs ns (defScope st) body (defBody st) = true) (hnl : ns.contains lamNm = false)
    (cal : ∀ (f : Nat) (x : Str), fns[f]? = some x → CalM P (callD T d) prog w K mg base d f x) : FnOk prog w K mg base (L2.CX prog w) (d + 1) f fd ps (spF P (callD T (d + 1)) i) := by
  have hpl : ps.length ≤ ns.length := by have := congrArg List.length sc.pre; rw [List.length_take] at this; omega
  refine Fn.ok sc (fun vs H Q E h => ?_) (fun cdv A outer s H vs Q E hr h => ?_)
  · obtain ⟨DF, G, sl, p, e, h1, h2, htb, ra, hc, _⟩ := h
    rw [callD_s hT, runF_code] at hc
    rw [ra.len, hc.1]
  · obtain ⟨DF, G, sl, p, e, h1, h2, htb, ra, hc, kv, kx⟩ := h
    rw [callD_s hT, runF_code] at hc
    obtain ⟨hl, hev⟩ := hc
    have F0 := start_fr (P := P) (N := ns) h1 h2 htb ra hl hpl
    generalize hP : ({ P with DF0 := DF, G0 := G, H0 := H } : Px) = P' at F0
    have eK : P'.K = P.K := by rw [← hP]
    have hsp : ∀ f, spF P' (callD T d) f = spF P (callD T d) f := fun f => by rw [← hP]; rfl
    have hX : Cxs P' (callD T d) fns cs ns (cxOf (L2.CX prog w) prog w K mg base ns nm (defScope st) f cdv A outer s H E) (defScope st) (fun cls dx _ H => E cls dx H) :=
      { f := { o := ⟨M.K.trans eK.symm, rfl, rfl, sc.nd, rfl, hr.hd, M.free, fun k x dd e => (by rw [eK]; exact M.gl k x dd e), (by have := hr.un; show (A.deeper _).units + 200 < _; omega), hr.depth⟩
               cal := fun f x e => (by
                obtain ⟨fa, fd, ps, a1, a2, a3, a4⟩ := cal f x e
                exact ⟨d, fa, fd, ps, (by rw [hsp]; exact a1), hr, a2, a3, a4⟩)
               tk := takes_of rfl rfl rfl rfl }
        fn := fun _ => rfl
        po := passes_of rfl
        lam := fun h => by rw [hnl] at h; cases h }
    refine ⟨_, okSs body hX hm, DF, G, _, _, _, F0, hev, ?_⟩
    have fin : ∀ v d ρ' σ' H' DF' G', p d (ρ'.take ps.length) → FrD P' DF' σ' ρ' G' H' → Rp P'.K G' v d → Q v H' := fun v d ρ' σ' H' DF' G' hp F' r => by
      rw [eK] at r
      subst hP
      obtain ⟨g, d'⟩ := back_gr F'
      exact kv _ _ _ _ _ hp g F'.sub d' r
    refine ⟨fun ρ' σ' H' DF' G' hp F' s' => fin _ _ _ _ _ _ _ hp F' .non, fun ρ' σ' H' DF' G' hp F' s' => hp.elim, fun ρ' σ' H' DF' G' hp F' s' => hp.elim, fun dd ρ' σ' H' DF' G' v hp F' s' r => fin _ _ _ _ _ _ _ hp F' r, fun x ρ' σ' H' DF' G' cls dx hp F' s' ex => ?_⟩
    subst hP
    obtain ⟨g, d'⟩ := back_gr F'
    exact kx _ _ _ _ _ _ hp g F'.sub d' ex
end
end Pv
set_option Elab.async false
set_option linter.all false
set_option maxRecDepth 100000
set_option maxHeartbeats 4000000
/-! Core 16: the law's state, the law's first row. Own work. -/
set_option autoImplicit false
namespace Pv
open PySem PySem.Spec L2
/-- the new state -/
def spSt (T : List (Addr × Str)) (K : PySem.W.Frag) : Sp := fun vs H Q _ => ∃ (a : Addr) (ns : List Int), vs = [.ref a] ∧ SqL K H a (ns.map V.int) ∧ LamX.Tabs T H ∧
  ∀ (q : Addr × Addr) (H' : Hp) (cells : List Int), CellsOk cells → Fr0 H q.1 → Fr0 H q.2 → q.1 ≠ q.2 → H' q.1 = some (.lst [.int 0, .ref q.2]) → H' q.2 = some (.lst (cells.map V.int)) → (∀ b o, H b = some o → noTbl o → H' b = some o) → (∀ b, Fr0 H' b → Fr0 H b) → LamX.Tabs T H' → Q (.ref q.1) H'
def cElt : CE := .prim .abs (.cons (.nm 2) .nil)
def cRow2 : CS := .ifs (.cmp .eq (.prim .len (.cons (.bo 1) .nil)) (.cst (.int 0))) (.cons (.own 1 (.lst (.cons (.cst (.int 0)) .nil))) .nil) .nil
def mState (cs : List (Str × PyData)) (N : List Str) (S : Scope) : List Stmt → Bool
  | [.Assign [.Name x _] (.ListComp e [⟨tg', .Subscript (.Name s p0) (.Slice none (some (.Constant (.int 63) _ _)) none _) _, [], 0⟩] sc _) _, st2, .Return (some (.List [.Constant (.int 0) _ _, .Name y p5] _)) _] =>
    (stoB N S S 1 x && (mNm N S 0 (.Name s p0) && mNm N S 1 (.Name y p5))) && ((blkC N S sc (ownOf N [2]) && tgB N (relS sc S) sc (.nm 2) tg') && (mtE [] cs N (relS sc S) cElt e && mtS [] cs N S cRow2 st2))
  | _ => false
section
variable {P : Px} {C : Orc} {fns : List Str} {cs : List (Str × PyData)} {N : List Str} {X : Cx} {S : Scope} {W : WX}
theorem s_setLcI (hX : Cxs P C fns cs N X S W) {i : Nat} {x : Str} {py pos p : Pos} {x' tg' it' : Expr} {ifs : List Expr} {sc : Scope} {tg : Tg} {elt t : CE} {wi : TI} (h : stoB N S S i x = true) (h1 : blkC N S sc (ownOf N (tgs tg)) = true) (h2 : tgB N (relS sc S) sc tg tg' = true)
    (hi : PI X tg' it' wi) (fi : fineX it' = true) (he : ∀ X', Cxf P C fns cs N X' (relS sc S) WF → PE X' x' (tV P C WF elt)) (ht : ∀ X', Cxf P C fns cs N X' (relS sc S) WF → PTs X' ifs (tT P C WF t)) :
    PS X (.Assign [.Name x py] (.ListComp x' [⟨tg', it', ifs, 0⟩] sc p) pos) (tAsg (tLc wi (gT P.K tg) (tT P C WF t) (tV P C WF elt) (tgs tg)) (gName i)) := by
  have ok : BlkOk X.N X.env.scope sc (ownOf N (tgs tg)) := by rw [hX.f.o.hN, hX.f.o.sc]; exact blkOk_by h1
  have bx := fun s H D cl fp => hX.f.blk s H sc D cl fp
  have ho := own_of (tgB_ix h2)
  cases hb : (X.env.blockKind == .function && X.env.kindOf x == some .local && py.line == p.line && !(sc.names.any fun (n, k) => n == x && (k == .local || k == .cell))) with
  | false =>
    have := pe_lc hX.f.o.calm hX.f.o.nd hi ok (fun s H D cl fp => pg_ok (bx s H D cl fp) (celB_fn s H D cl fp) h2) (fun s H D cl fp => ht _ (bx s H D cl fp)) (fun s H D cl fp => he _ (bx s H D cl fp)) (nofold fi _) (pos := p)
    rw [ho] at this
    exact s_setV hX h this (by rw [comp_kind hX, hb])
  | true =>
    have hloc : X.env.scope.names.lookup x = some .local := by
      obtain ⟨hb, _⟩ := both hb
      obtain ⟨hb, _⟩ := both hb
      obtain ⟨_, hb⟩ := both hb
      exact eq_of_beq hb
    have := ps_setLc hX.f.o.calm hX.f.o.nd (store_sc hX h).1 hloc (spos := pos) (py := py) (pos := p) (by rw [comp_kind hX, hb]) hi ok (fun s H D cl fp => pg_ok (bx s H D cl fp) (celB_fn s H D cl fp) h2) (fun s H D cl fp => ht _ (bx s H D cl fp)) (fun s H D cl fp => he _ (bx s H D cl fp)) (nofold fi _)
    rw [ho] at this
    exact this
/-- what is known of the script's name -/
def scF (K : PySem.W.Frag) (ns : List Int) (σ : L2.St) (H : Hp) : Prop := ∃ a, σ[0]? = some (some (V.ref a)) ∧ SqL K H a (ns.map V.int)
theorem cut63 (ns : List Int) : cutV (ns.map V.int) none (some 63) = (ns.take 63).map V.int := by
  unfold cutV
  rw [List.length_map]
  have e0 : HT.sIx ns.length 0 none = 0 := rfl
  have e1 : HT.sIx ns.length ns.length (some 63) = min 63 ns.length := by
    unfold HT.sIx
    simp <;> omega
  rw [e0, e1, List.drop_zero, Nat.sub_zero, ← List.map_take]
  congr 1
  rcases Nat.le_total 63 ns.length with h | h
  · rw [Nat.min_eq_left h]
  · rw [Nat.min_eq_right h, List.take_of_length_le (Nat.le_refl _), List.take_of_length_le h]
theorem p_cut (hX : Cxf P C fns cs N X S W) (ns : List Int) {s : Str} {p0 p1 p2 p3 : Pos} {j : Nat} (h : mNm N S 0 (.Name s p0) = true) :
    PE X (.Subscript (.Name s p0) (.Slice none (some (.Constant (.int 63) j p1)) none p2) p3) (fun σ H Q => tQ P C W true (.cst (.list ((ns.take 63).map .int))) σ H Q ∧ scF X.K ns σ H) :=
  PE.mono (pe_slice sl_list (e_var hX h) po_none (po_some pe_int)) fun σ H Q ⟨⟨DF, G, ρ, p, e, F, ev, k, kx⟩, a, h0, h1⟩ => ⟨_, h0, 63, rfl, a, ns.map V.int, rfl, h1, fun z hz => by
    rw [cut63]
    have kv : KV P DF σ ρ G H p Q := fun v H' G' d hd F' g r => k v H' G' d hd F' g (.inl r)
    exact kv.newL F ev (Rps.ints _) hz⟩
def tState (P : Px) (C : Orc) (W : WX) (K : PySem.W.Frag) (ns : List Int) : TS :=
  tSeq (tAsg (tLc (fun σ H R => tI P C W true (.seq (.cst (.list ((ns.take 63).map .int)))) σ H R ∧ scF K ns σ H) (gT P.K (.nm 2)) (tT P C WF (.cst (.bool true))) (tV P C WF cElt) [2]) (gName 1))
    (tSeq (tS P C W cRow2) (tRet (tLst (tCons (tC (.int 0)) (tCons (tVar 1) tNil)))))
theorem pts_yes : PTs X [] (tT P C W (.cst (.bool true))) := PTs.mono pts_nil fun σ H Q ⟨DF, G, ρ, p, e, F, ev, k, kx⟩ => k true H G ev F (Gr.refl _ _ _ _)
theorem state_body (hX : Cxs P C [] cs N X S W) (ns : List Int) {body : List Stmt} (h : mState cs N S body = true) : PSs X body (tState P C W X.K ns) := by
  unfold mState at h
  split at h
  · obtain ⟨h1, h2⟩ := both h
    obtain ⟨h1, h3⟩ := both h1
    obtain ⟨h3, h4⟩ := both h3
    obtain ⟨h2, h5⟩ := both h2
    obtain ⟨h2, h6⟩ := both h2
    obtain ⟨h5, h7⟩ := both h5
    exact pss_cons (s_setLcI hX (tg := .nm 2) (elt := cElt) (t := .cst (.bool true)) (ifs := []) h1 h2 h6 (pi_anyW hX.f (p_cut hX.f ns h3)) rfl (fun X' hX' => (okE cElt).v hX' h5) (fun X' hX' => pts_yes)) (pss_cons (okS cRow2 hX h7) (pss_one (ps_ret (pe_lst (pa_cons pe_int (pa_cons (e_var hX.f h4) pa_nil (star_fine rfl _ _)))))))
  · cases h
/-- a frame of which nothing is known -/
theorem frame0 {H : Hp} (tb : LamX.Tabs P.T H) (vs : List V) (hv : vs.length ≤ N.length) : FrD { P with DF0 := none, G0 := fun _ => none, H0 := H } none (L2.start N vs) (List.replicate N.length .un) (fun _ => none) H where
  len := by unfold L2.start; rw [List.length_append, List.length_map, List.length_replicate, List.length_replicate]; omega
  sub := fun _ _ e => by cases e
  sub0 := fun _ _ e => by cases e
  new := fun _ _ e => by cases e
  keep0 := fun _ _ e _ _ => e
  df := .inl rfl
  slots := fun i s e => by
    rw [List.getElem?_replicate] at e
    split at e
    · cases e; trivial
    · cases e
  own1 := fun i j d d' p e _ _ _ => by
    rw [List.getElem?_replicate] at e
    split at e <;> cases e
  dr := ⟨fun _ _ e => (by cases e), trivial⟩
  live0 := fun _ e => e
  tab := tb
theorem absAll : ∀ (ns : List Int) (p : List PyData → Prop), p (ns.map fun n => .int (absI n)) → cmpF (oneF C cElt (.nm 2) (.cst (.bool true)) [.un, .un, .un]) (ns.map .int) p
  | [], p, h => h
  | n :: r, p, h => by
    rw [List.map_cons, cmpF_cons]
    have ih := absAll r (fun ds => p ([.int (absI n)] ++ ds)) h
    simp only [oneF, cElt, setTg, evE, asB_b, if_true, evEs, primD, one_1, slotV_v, asI_i, List.set_cons_succ, List.set_cons_zero, List.getElem?_cons_succ, List.getElem?_cons_zero]
    exact ih
theorem FrD.kept {DF' : DFt} {σ : L2.St} {ρ : Env} {G' H' : Hp} (F : FrD P DF' σ ρ G' H') (h : P.DF0 = none) : ∀ b o, P.H0 b = some o → noTbl o → H' b = some o := fun b o e nt => F.keep0 b o e nt (by
  rcases F.df with e1 | ⟨_, e2⟩
  · rw [e1, h]; trivial
  · cases hd : DF' with
    | none => trivial
    | some q =>
      obtain ⟨z1, z2⟩ := e2 q hd
      exact ⟨fun z => z1 o (by rw [← z]; exact e) nt, fun z => z2 o (by rw [← z]; exact e) nt⟩)
theorem state_pure {K : PySem.W.Frag} {a : Addr} {ns : List Int} {H : Hp} {Q : VK} (hS : SqL K H a (ns.map V.int))
    (hQ : ∀ (q : Addr × Addr) (H' : Hp) (cells : List Int), CellsOk cells → Fr0 H q.1 → Fr0 H q.2 → q.1 ≠ q.2 → H' q.1 = some (.lst [.int 0, .ref q.2]) → H' q.2 = some (.lst (cells.map V.int)) → (∀ b o, H b = some o → noTbl o → H' b = some o) → (∀ b, Fr0 H' b → Fr0 H b) → LamX.Tabs P.T H' → Q (.ref q.1) H')
    (F0 : FrD P none [some (.ref a), none, none] [.un, .un, .un] (fun _ => none) H) (h0 : P.H0 = H) (hd0 : P.DF0 = none) : tState P (fun _ _ _ _ => False) W K ns { nx := fun _ H' => Q .non H', rt := Q } [some (.ref a), none, none] H := by
  have hlc : tLc (tI P (fun _ _ _ _ => False) W true (.seq (.cst (.list ((ns.take 63).map .int))))) (gT P.K (.nm 2)) (tT P (fun _ _ _ _ => False) WF (.cst (.bool true))) (tV P (fun _ _ _ _ => False) WF cElt) [2] [some (.ref a), none, none] H
      (fun x H1 => gName 1 x [some (.ref a), none, none] H1 (tSeq (tS P (fun _ _ _ _ => False) W cRow2) (tRet (tLst (tCons (tC (.int 0)) (tCons (tVar 1) tNil)))) { nx := fun _ H' => Q .non H', rt := Q })) := by
    refine lc_ok (tg := .nm 2) rfl _ _ _ ⟨none, fun _ => none, [.un, .un, .un], fun d => d = .list ((ns.take 63).map fun n => .int (absI n)), noE, F0, ?_, fun b xs H' G' ds hd F' g n gn eq r => ?_, KX.noE⟩
    · rw [evE, evI, evE]
      show cmpF (oneF _ cElt (.nm 2) (.cst (.bool true)) [.un, .un, .un]) _ _
      exact absAll _ _ rfl
    · cases hd
      have F1 : FrD P none ([some (.ref a), some (.ref b), none] : L2.St) [.un, .own (.list ((ns.take 63).map fun n => .int (absI n))), .un] G' H' := F'.setO (i := 1) gn (F0.h0 n).1 trivial eq r (fun j d z w => F0.notOwn n j d z w)
      have hcl : ((ns.take 63).map fun n => PyData.int (absI n)) = ((ns.take 63).map absI).map .int := by rw [List.map_map]; rfl
      rw [hcl] at F1
      have fin : ∀ cells : List Int, CellsOk cells → ∀ DF' σ' H' G', FrD P DF' σ' [.un, .own (.list (cells.map .int)), .un] G' H' → tRet (tLst (tCons (tC (.int 0)) (tCons (tVar 1) tNil))) { nx := fun _ H' => Q .non H', rt := Q } σ' H' := fun cells hc DF' σ' H' G' F2 => by
        obtain ⟨p, e1, e2, e3, _, xs, e5, e6⟩ := F2.slots 1 _ rfl
        obtain ⟨ns', rfl, he⟩ := ints_of e6 (by simp [List.all_eq_true, isIntT])
        have : ns' = cells := by
          have := congrArg (List.map fun d => match d with | PyData.int i => i | _ => 0) he
          simpa [List.map_map, Function.comp_def] using this.symm
        subst this
        refine ⟨.ref p, e1, by show 2 ≤ sizeLine; decide, fun c hc' => ?_⟩
        have hpc : c ≠ p := fun z => by rw [z, e5] at hc'; cases hc'
        rw [h0] at e3
        refine hQ (c, p) _ ns' hc (by have := (F2.h0 (.of hc')).1; rw [h0] at this; exact this) e3 hpc upd_same (by rw [upd_ne (Ne.symm hpc)]; exact e5) (fun b o eb nt => ?_) (fun b eb => ?_) (tabs_upd F2.tab hc')
        · rw [← h0] at eb
          have := F2.kept hd0 b o eb nt
          rw [upd_ne (ne_of_none this hc')]; exact this
        · rw [← h0]
          exact F2.live0 b (fr0_upd hc' b eb)
      generalize hL : (ns.take 63).map absI = L at F1
      have hL2 : L.length ≤ 1000 := by rw [← hL, List.length_map, List.length_take]; omega
      refine ⟨none, G', _, fun f => ∃ cells, CellsOk cells ∧ f = .nx [.un, .own (.list (cells.map .int)), .un], fun _ _ => False, F1, ?_, ⟨fun ρ' σ' H' DF' G' ⟨cells, hc, hp⟩ F' s' => ?_, fun ρ' σ' H' DF' G' ⟨cells, hc, hp⟩ F' s' => (by cases hp), fun ρ' σ' H' DF' G' ⟨cells, hc, hp⟩ F' s' => (by cases hp), fun d ρ' σ' H' DF' G' v ⟨cells, hc, hp⟩ F' s' r => (by cases hp), fun x ρ' σ' H' DF' G' cls dx hp => hp.elim⟩⟩
      · cases L with
        | nil =>
          simp [cRow2, slotO, fit, PyData.plain, PyData.depth, PyData.eqv]
          exact ⟨[0], ⟨by simp, by decide⟩, rfl⟩
        | cons x r =>
          simp [cRow2, slotO, fit, PyData.plain, PyData.depth, PyData.eqv]
          exact ⟨x :: r, ⟨by simp, hL2⟩, rfl⟩
      · cases hp
        exact fin cells hc DF' σ' H' G' F'
  obtain ⟨DF, G, ρ, p, e, F, ev, k, kx⟩ := hlc
  exact ⟨⟨DF, G, ρ, p, e, F, ev, k, kx⟩, a, rfl, hS⟩
section
variable {prog : Program} {w : World} {K : PySem.W.Frag} {mg : Str → Option Value} {base : Heap}
theorem ok_state {st : Stmt} {nm : Str} {f : Addr} {fd : FuncData} {a0 a1 a2 : Str} (M : Md P K mg cs) (Fn : FnP K nm st f fd) (sc : FnScope [a0, a1, a2] [a0] (defScope st)) (hm : mState cs [a0, a1, a2] (defScope st) (defBody st) = true) (hnl : ([a0, a1, a2] : List Str).contains lamNm = false) :
    FnOk prog w K mg base (L2.CX prog w) 1 f fd [a0] (spSt P.T K) := by
  refine Fn.ok sc (fun vs H Q E h => ?_) (fun cdv A outer s H vs Q E hr h => ?_)
  · obtain ⟨a, ns, rfl, _⟩ := h
    rfl
  · obtain ⟨a, ns, rfl, hS, htb, hQ⟩ := h
    have F0 := frame0 (P := P) (N := [a0, a1, a2]) (H := H) htb [.ref a] (by simp)
    generalize hP : ({ P with DF0 := none, G0 := fun _ => none, H0 := H } : Px) = P' at F0
    have eK : P'.K = P.K := by rw [← hP]
    have hX : Cxs P' (fun _ _ _ _ => False) [] cs [a0, a1, a2] (cxOf (L2.CX prog w) prog w K mg base [a0, a1, a2] nm (defScope st) f cdv A outer s H E) (defScope st) (fun cls dx _ H => E cls dx H) :=
      { f := { o := ⟨M.K.trans eK.symm, rfl, rfl, sc.nd, rfl, hr.hd, M.free, fun k x dd e => (by rw [eK]; exact M.gl k x dd e), (by have := hr.un; show (A.deeper _).units + 200 < _; omega), hr.depth⟩
               cal := fun f x e => by cases e
               tk := takes_of rfl rfl rfl rfl }
        fn := fun _ => rfl
        po := passes_of rfl
        lam := fun h => by rw [hnl] at h; cases h }
    have eT : P'.T = P.T := by rw [← hP]
    exact ⟨_, state_body hX ns hm, state_pure hS (by rw [eT]; exact hQ) F0 (by rw [← hP]) (by rw [← hP])⟩
/-- the law's promise -/
def spLaw (T : List (Addr × Str)) (K : PySem.W.Frag) : Sp := fun vs H Q _ => ∃ (a : Addr) (ns : List Int), vs = [.ref a] ∧ SqL K H a (ns.map V.int) ∧ LamX.Tabs T H ∧ ∀ H', Q (.bl true) H'
def mLaw1 (N : List Str) (S : Scope) : Stmt → Bool
  | .Assign [.Name x _] (.Call (.Name f _) [.Name s p] [] _) _ => (decide (f = ("_law_state" : Str)) && glB S f) && (stoB N S S 1 x && mNm N S 0 (.Name s p))
  | _ => false
theorem law1 {T : List (Addr × Str)} (hX : Cxs P C fns cs N X S W) {s1 : Stmt} (h : mLaw1 N S s1 = true) {k : Nat} {fs : Addr} {fds : FuncData} {ps : List Str} (F : FnOk X.prog X.w X.K X.mg X.base (L2.CX X.prog X.w) k fs fds ps (spSt T X.K)) (hr : Room k X.A) (hm : X.mg "_law_state" = some (.ref fs))
    (hk : PySem.W.keepIn X.K (.ref fs) = true) (hb : Binds X.K fds ps []) : PS X s1 (tAsg (tCallS (spSt T X.K) (WE W) (tCons (tVar 0) tNil)) (gName 1)) := by
  unfold mLaw1 at h
  split at h
  · obtain ⟨h1, h2⟩ := both h
    obtain ⟨h1, h3⟩ := both h1
    obtain ⟨h2, h4⟩ := both h2
    obtain rfl := dec h1
    obtain ⟨g1, g2⟩ := hX.f.glo h3
    exact s_setV hX h2 (pe_callS F hr g1 hm hk hb (fun σ => passAt hX.f.tk σ) (pa_cons (e_var hX.f h4) pa_nil (star_fine rfl _ _)) g2 (star_fine rfl _ _) rfl) rfl
  · cases h
theorem law_ok {T : List FnI} {d : Nat} {nm : Str} {st : Stmt} {f fs : Addr} {fd fds : FuncData} {ps pss : List Str} {s1 : Stmt} {tl : List Stmt} {body : CSs} (M : Md P K mg cs) (Fn : FnP K nm st f fd) (sc : FnScope N ps (defScope st)) (hps : ps.length = 1) (hb : defBody st = s1 :: tl)
    (h1 : mLaw1 N (defScope st) s1 = true) (hm : mtSs fns cs N (defScope st) body tl = true) (hnl : N.contains lamNm = false) (hN : 2 ≤ N.length)
    (cal : ∀ (f : Nat) (x : Str), fns[f]? = some x → CalM P (callD T d) prog w K mg base (d + 1) f x)
    (SS : FnOk prog w K mg base (L2.CX prog w) (d + 1) fs fds pss (spSt P.T K)) (gs : mg "_law_state" = some (.ref fs)) (ks : PySem.W.keepIn K (.ref fs) = true) (bs : Binds K fds pss [])
    (ev : evSs (callD T d) body (.un :: .st :: List.replicate (N.length - 2) .un) (endF 1 fun d _ => d = .bool true) fun _ _ => False) : FnOk prog w K mg base (L2.CX prog w) (d + 2) f fd ps (spLaw P.T K) := by
  refine Fn.ok sc (fun vs H Q E h => ?_) (fun cdv A outer s H vs Q E hr h => ?_)
  · obtain ⟨a, ns, rfl, _⟩ := h
    exact hps.symm
  · obtain ⟨a, ns, rfl, hS, htb, hQ⟩ := h
    have F0 := frame0 (P := P) (N := N) (H := H) htb [.ref a] (by show 1 ≤ N.length; omega)
    generalize hP : ({ P with DF0 := none, G0 := fun _ => none, H0 := H } : Px) = P' at F0
    have eK : P'.K = P.K := by rw [← hP]
    have hsp : ∀ f, spF P' (callD T d) f = spF P (callD T d) f := fun f => by rw [← hP]; rfl
    have hX : Cxs P' (callD T d) fns cs N (cxOf (L2.CX prog w) prog w K mg base N nm (defScope st) f cdv A outer s H E) (defScope st) (fun cls dx _ H => E cls dx H) :=
      { f := { o := ⟨M.K.trans eK.symm, rfl, rfl, sc.nd, rfl, hr.hd, M.free, fun k x dd e => (by rw [eK]; exact M.gl k x dd e), (by have := hr.un; show (A.deeper _).units + 200 < _; omega), hr.depth⟩
               cal := fun f x e => (by
                obtain ⟨fa, fd, ps, a1, a2, a3, a4⟩ := cal f x e
                exact ⟨d + 1, fa, fd, ps, (by rw [hsp]; exact a1), hr, a2, a3, a4⟩)
               tk := takes_of rfl rfl rfl rfl }
        fn := fun _ => rfl
        po := passes_of rfl
        lam := fun h => by rw [hnl] at h; cases h }
    rw [hb]
    refine ⟨_, pss_cons (law1 hX h1 SS hr gs ks bs) (okSs body hX hm), ?_⟩
    have hst : ∃ r, L2.start N [.ref a] = some (.ref a) :: none :: r ∧ r.length = N.length - 2 := by
      refine ⟨List.replicate (N.length - 2) none, ?_, List.length_replicate⟩
      unfold L2.start
      show some (V.ref a) :: List.replicate (N.length - 1) none = _
      have : N.length - 1 = (N.length - 2) + 1 := by omega
      rw [this, List.replicate_succ]
    obtain ⟨r, hst, hr2⟩ := hst
    rw [hst]
    refine ⟨.ref a, rfl, a, ns, rfl, hS, htb, fun q H' cells hc n1 n2 n3 e1 e2 kp lv tbs => ?_⟩
    refine ⟨some q, fun _ => none, .un :: .st :: List.replicate (N.length - 2) .un, _, _, ?_, ev, ⟨fun ρ' σ' H' DF' G' hp F' s' => (by cases (show PyData.none = .bool true from hp)), fun ρ' σ' H' DF' G' hp F' s' => hp.elim, fun ρ' σ' H' DF' G' hp F' s' => hp.elim, fun dd ρ' σ' H' DF' G' v hp F' s' r => ?_, fun x ρ' σ' H' DF' G' cls dx hp => hp.elim⟩⟩
    · subst hP
      refine ⟨?_, fun _ _ e => (by cases e), fun _ _ e => (by cases e), fun _ _ e => (by cases e), fun b o e nt _ => kp b o e nt, .inr ⟨rfl, fun q' e => (by cases e; exact ⟨n1, n2⟩)⟩, fun i t e => ?_, fun i j d d' p e _ _ _ => ?_, ⟨fun _ _ e => (by cases e), rfl, rfl, n3, 0, cells, e1, e2, hc⟩, lv, tbs⟩
      · show _ = ((some (V.ref a) :: some (V.ref q.1) :: r : L2.St)).length
        rw [List.length_cons, List.length_cons, List.length_cons, List.length_cons, List.length_replicate, hr2]
      · match i with
        | 0 => cases e; trivial
        | 1 => cases e; exact ⟨q, rfl, rfl⟩
        | i + 2 =>
          rw [List.getElem?_cons_succ, List.getElem?_cons_succ, List.getElem?_replicate] at e
          split at e
          · cases e; trivial
          · cases e
      · match i with
        | 0 => cases e
        | 1 => cases e
        | i + 2 =>
          rw [List.getElem?_cons_succ, List.getElem?_cons_succ, List.getElem?_replicate] at e
          split at e <;> cases e
    · have hp : dd = .bool true := hp
      subst hp
      cases r
      exact hQ _
end
end
end Pv
set_option Elab.async false
set_option linter.all false
set_option maxRecDepth 100000
set_option maxHeartbeats 4000000
/-! Core 18: a def with a lambda; the whole table. Own work. -/
set_option autoImplicit false
namespace Pv
open PySem PySem.Spec L2
section
variable {P : Px} {prog : Program} {w : World} {K : PySem.W.Frag} {mg : Str → Option Value} {base : Heap}
/-- the name of a def's lambda -/
def lamQ (nm : Str) : Str := (PyProof.Rows.envOfC nm { kind := .function, names := [], isGenerator := false, isCoroutine := false } 0 0 .none).qual ++ "<lambda>"
theorem fn_codeL {T : List FnI} {fns : List Str} {cs : List (Str × PyData)} {i d : Nat} {nm : Str} {ps ns : List Str} {body : CSs} {st : Stmt} {f c Pt : Addr} {dV kV doc pm ct oc : Value} {an od : Option Addr} {osl : Array (Option Value)} (M : Md P K mg cs)
    (hT : T[i]? = some ⟨nm, ps, ns, .code body⟩) (lk : K.lookup f = some ⟨oc, od, .func (PySem.W.fnOf nm nm (defArgs st) (defBody st) (defScope st) dV kV doc pm an (.ref c) ct), osl⟩) (hcd : PySem.W.codeIn K (.ref c) nm = true)
    (sc : FnScope ns ps (defScope st)) (hm : mtSs fns cs ns (defScope st) body (defBody st) = true) (TB : LamX.TabB base mg c Pt) (hT1 : (Pt, lamQ nm) ∈ P.T) (hT2 : ∀ p ∈ P.T, p.1 = Pt → p.2 = lamQ nm)
    (cal : ∀ (f : Nat) (x : Str), fns[f]? = some x → CalM P (callD T d) prog w K mg base d f x) : FnOk prog w K mg base (L2.CX prog w) (d + 1) f (PySem.W.fnOf nm nm (defArgs st) (defBody st) (defScope st) dV kV doc pm an (.ref c) ct) ps (spF P (callD T (d + 1)) i) := by
  have hpl : ps.length ≤ ns.length := by have := congrArg List.length sc.pre; rw [List.length_take] at this; omega
  refine fn_of lk hcd sc (fun vs H Q E h => ?_) (fun A outer s H vs Q E hr h => ?_)
  · obtain ⟨DF, G, sl, p, e, h1, h2, htb, ra, hc, _⟩ := h
    rw [callD_s hT, runF_code] at hc
    rw [ra.len, hc.1]
  · obtain ⟨DF, G, sl, p, e, h1, h2, htb, ra, hc, kv, kx⟩ := h
    rw [callD_s hT, runF_code] at hc
    obtain ⟨hl, hev⟩ := hc
    have F0 := start_fr (P := P) (N := ns) h1 h2 htb ra hl hpl
    generalize hP : ({ P with DF0 := DF, G0 := G, H0 := H } : Px) = P' at F0
    have eK : P'.K = P.K := by rw [← hP]
    have eT : P'.T = P.T := by rw [← hP]
    have hsp : ∀ f, spF P' (callD T d) f = spF P (callD T d) f := fun f => by rw [← hP]; rfl
    have hX : Cxs P' (callD T d) fns cs ns (cxOf (L2.CX prog w) prog w K mg base ns nm (defScope st) f (.ref c) A outer s H E) (defScope st) (fun cls dx _ H => E cls dx H) :=
      { f := { o := ⟨M.K.trans eK.symm, rfl, rfl, sc.nd, rfl, hr.hd, M.free, fun k x dd e => (by rw [eK]; exact M.gl k x dd e), (by have := hr.un; show (A.deeper _).units + 200 < _; omega), hr.depth⟩
               cal := fun f x e => (by
                obtain ⟨fa, fd, ps, a1, a2, a3, a4⟩ := cal f x e
                exact ⟨d, fa, fd, ps, (by rw [hsp]; exact a1), hr, a2, a3, a4⟩)
               tk := takes_of rfl rfl rfl rfl }
        fn := fun _ => rfl
        po := passes_of rfl
        lam := fun _ => ⟨c, Pt, TB, rfl, (by rw [eT]; exact hT1), (by rw [eT]; exact hT2)⟩ }
    refine ⟨_, okSs body hX hm, DF, G, _, _, _, F0, hev, ?_⟩
    have fin : ∀ v d ρ' σ' H' DF' G', p d (ρ'.take ps.length) → FrD P' DF' σ' ρ' G' H' → Rp P'.K G' v d → Q v H' := fun v d ρ' σ' H' DF' G' hp F' r => by
      rw [eK] at r
      subst hP
      obtain ⟨g, d'⟩ := back_gr F'
      exact kv _ _ _ _ _ hp g F'.sub d' r
    refine ⟨fun ρ' σ' H' DF' G' hp F' s' => fin _ _ _ _ _ _ _ hp F' .non, fun ρ' σ' H' DF' G' hp F' s' => hp.elim, fun ρ' σ' H' DF' G' hp F' s' => hp.elim, fun dd ρ' σ' H' DF' G' v hp F' s' r => fin _ _ _ _ _ _ _ hp F' r, fun x ρ' σ' H' DF' G' cls dx hp F' s' ex => ?_⟩
    subst hP
    obtain ⟨g, d'⟩ := back_gr F'
    exact kx _ _ _ _ _ _ hp g F'.sub d' ex
/-- an entry of the table keeps its promise where its callees do -/
def EntOk (P : Px) (prog : Program) (w : World) (K : PySem.W.Frag) (mg : Str → Option Value) (base : Heap) (T : List FnI) (fns : List Str) (i : Nat) (fi : FnI) : Prop :=
  ∃ (f : Addr) (fd : FuncData), mg fi.name = some (.ref f) ∧ PySem.W.keepIn K (.ref f) = true ∧ Binds K fd fi.ps [] ∧
    ∀ d, (∀ (g : Nat) (x : Str), fns[g]? = some x → CalM P (callD T d) prog w K mg base d g x) → FnOk prog w K mg base (L2.CX prog w) (d + 1) f fd fi.ps (spF P (callD T (d + 1)) i)
theorem cal_all {T : List FnI} {fns : List Str} (h : ∀ i fi, T[i]? = some fi → EntOk P prog w K mg base T fns i fi) (hf : fns = T.map (·.name)) : ∀ (d f : Nat) (x : Str), fns[f]? = some x → CalM P (callD T d) prog w K mg base d f x
  | 0, f, x, e => by
    rw [hf, List.getElem?_map] at e
    cases q : T[f]? with
    | none => rw [q] at e; cases e
    | some fi =>
      rw [q] at e
      obtain rfl : fi.name = x := by simpa using e
      obtain ⟨fa, fd, h1, h2, h3, h4⟩ := h f fi q
      refine ⟨fa, fd, fi.ps, ⟨fun vs H Q E z => ?_, fun A outer s H args us vs Q E _ _ _ _ z => ?_⟩, h1, h2, h3⟩
      · obtain ⟨_, _, _, _, _, _, _, _, _, hc, _⟩ := z
        exact hc.elim
      · obtain ⟨_, _, _, _, _, _, _, _, _, hc, _⟩ := z
        exact hc.elim
  | d + 1, f, x, e => by
    have ih := cal_all h hf d
    rw [hf, List.getElem?_map] at e
    cases q : T[f]? with
    | none => rw [q] at e; cases e
    | some fi =>
      rw [q] at e
      obtain rfl : fi.name = x := by simpa using e
      obtain ⟨fa, fd, h1, h2, h3, h4⟩ := h f fi q
      exact ⟨fa, fd, fi.ps, h4 d ih, h1, h2, h3⟩
/-- an entry by its text -/
theorem ent_code {T : List FnI} {fns : List Str} {cs : List (Str × PyData)} {i : Nat} {nm : Str} {ps ns : List Str} {body : CSs} {st : Stmt} {f : Addr} {fd : FuncData} (M : Md P K mg cs) (hT : T[i]? = some ⟨nm, ps, ns, .code body⟩) (Fn : FnP K nm st f fd) (hg : mg nm = some (.ref f)) (hb : Binds K fd ps [])
    (sc : FnScope ns ps (defScope st)) (hm : mtSs fns cs ns (defScope st) body (defBody st) = true) (hnl : ns.contains lamNm = false) : EntOk P prog w K mg base T fns i ⟨nm, ps, ns, .code body⟩ :=
  ⟨f, fd, hg, Fn.kp, hb, fun d cal => fn_code M hT Fn sc hm hnl cal⟩
end
end Pv
set_option Elab.async false
set_option linter.all false
set_option maxRecDepth 100000
set_option maxHeartbeats 4000000
/-! Core 19: from a head's facts to the module. Own work. -/
set_option autoImplicit false
namespace Pv
open PySem PySem.Spec L2
mutual
/-- the value u is the data d, by the objects of K (tuples, ints, texts, ..) -/
def gotV (K : PySem.W.Frag) : Nat → Value → PyData → Bool
  | _, .none, .none => true
  | _, .bool a, .bool b => a == b
  | _, .int a _, .int b => decide (a = b)
  | _, .str a _, .str b => decide (a = b)
  | n + 1, .ref a, .tuple ds => (match K.lookup a with
    | some ⟨.type c, none, .seq its _, _⟩ => decide (c = "tuple") && (decide (its.size ≤ 1000) && gotVs K n its.toList ds)
    | _ => false)
  | _, _, _ => false
def gotVs (K : PySem.W.Frag) : Nat → List Value → List PyData → Bool
  | _, [], [] => true
  | n + 1, u :: us, d :: ds => gotV K n u d && gotVs K n us ds
  | _, _, _ => false
end
theorem gots {K : PySem.W.Frag} : ∀ n : Nat, (∀ (u : Value) (d : PyData), gotV K n u d = true → ∃ v, RelV v u ∧ Rp K (fun _ => none) v d) ∧ (∀ (us : List Value) (ds : List PyData), gotVs K n us ds = true → ∃ vs, Vals vs us ∧ Rps K (fun _ => none) vs ds) := by
  intro n
  induction n with
  | zero =>
    refine ⟨fun u d h => ?_, fun us ds h => ?_⟩
    · unfold gotV at h
      split at h
      · exact ⟨.non, rfl, .non⟩
      · obtain rfl := eq_of_beq h; exact ⟨.bl _, rfl, .bl _⟩
      · obtain rfl := dec h; exact ⟨.int _, ⟨_, rfl⟩, .int _⟩
      · obtain rfl := dec h; exact ⟨.str _, ⟨_, rfl⟩, .str _⟩
      · omega
      · cases h
    · unfold gotVs at h
      split at h
      · exact ⟨[], .nil, .nil⟩
      · omega
      · cases h
  | succ n ih =>
    refine ⟨fun u d h => ?_, fun us ds h => ?_⟩
    · unfold gotV at h
      split at h
      · exact ⟨.non, rfl, .non⟩
      · obtain rfl := eq_of_beq h; exact ⟨.bl _, rfl, .bl _⟩
      · obtain rfl := dec h; exact ⟨.int _, ⟨_, rfl⟩, .int _⟩
      · obtain rfl := dec h; exact ⟨.str _, ⟨_, rfl⟩, .str _⟩
      · rename_i m a ds en
        split at h
        · rename_i c its ep sl e
          obtain ⟨h1, h2⟩ := both h
          obtain ⟨hsz, h3⟩ := both h2
          obtain rfl := dec h1
          obtain rfl : n = m := by omega
          obtain ⟨vs, r1, r2⟩ := ih.2 _ _ h3
          exact ⟨.ref a, rfl, .tup (.inr ⟨_, its, ep, e, rfl, rfl, rfl, Nat.le_trans (dec hsz) (by rw [sizeLine_eq]; decide), r1⟩) r2⟩
        · cases h
      · cases h
    · unfold gotVs at h
      split at h
      · exact ⟨[], .nil, .nil⟩
      · rename_i m u us d ds en
        obtain rfl : n = m := by omega
        obtain ⟨h1, h2⟩ := both h
        obtain ⟨v, a1, a2⟩ := ih.1 _ _ h1
        obtain ⟨vs, b1, b2⟩ := ih.2 _ _ h2
        exact ⟨v :: vs, .cons a1 b1, .cons a2 b2⟩
      · cases h
theorem gotV_ok {K : PySem.W.Frag} {n : Nat} {u : Value} {d : PyData} (h : gotV K n u d = true) : ∃ v, RelV v u ∧ Rp K (fun _ => none) v d := (gots n).1 u d h
/-- the constants -/
def exC (cs : List (Str × PyData)) (K : PySem.W.Frag) : Bool := cs.all fun p => match PySem.W.nsIn K mainGlobals p.1 with
  | some (some u) => gotV K 40 u p.2
  | _ => false
theorem md_of {P : Px} {K : PySem.W.Frag} {mg : Str → Option Value} {h : Heap} {cs : List (Str × PyData)} (hK : K = P.K) (X : K.In h) (G : h.Ns mainGlobals mg) (ex : exC cs K = true)
    (fr : ∀ b ∈ (["len", "range", "min", "max", "abs", "sorted", "tuple", "list", "int", "isinstance", "set", "all", "any", "sum", "bool", "str", "dict"] : List Str), mg b = none) : Md P K mg cs := by
  refine ⟨hK, fr, fun k x d e => ?_⟩
  have hm := List.mem_of_getElem? e
  have := List.all_eq_true.mp ex _ hm
  cases q : PySem.W.nsIn K mainGlobals x with
  | none => simp [q] at this
  | some o =>
    cases o with
    | none => simp [q] at this
    | some u =>
      simp only [q] at this
      obtain ⟨v, r, rp⟩ := gotV_ok this
      subst hK
      exact ⟨v, u, PySem.W.mg_of X G q, r, rp⟩
end Pv
set_option Elab.async false
set_option linter.all false
set_option maxRecDepth 100000
namespace Pv
open PySem
def top (i : Nat) : Stmt := PySem.Challenge.pw_callswright_k03_whole_dances_of_any_kind.main.body.getD i (.Pass ⟨0, 0, 0, 0⟩)
end Pv
set_option Elab.async false
set_option linter.all false
set_option maxRecDepth 100000
set_option maxHeartbeats 4000000
/-! The law's drawing. Own work. -/
set_option autoImplicit false
namespace Pv
open PySem PySem.Spec L2
abbrev sTake : Stmt := top 30
abbrev nTake : List Str := ["state", "bound", "cells", "spot", "cell", "mixed"]
abbrev pTake : List Str := ["state", "bound"]
theorem scTake : FnScope nTake pTake (defScope sTake) := ⟨rfl, rfl, rfl, by decide +kernel, rfl, by decide +kernel, by decide +kernel⟩
theorem takeF_inv {sl : List Slot} {p : PyData → List Slot → Prop} (h : takeF sl p) : ∃ b : Int, sl = [.st, .v (.int b)] ∧ if b < 2 then p (.int 0) [.st, .v (.int b)] else b < 1000000000 ∧ ∀ n : Nat, (n : Int) < b → p (.int n) [.st, .v (.int b)] := by
  unfold takeF at h
  split at h
  · exact ⟨_, rfl, h⟩
  · exact h.elim
section
variable {P : Px} {prog : Program} {w : World} {K : PySem.W.Frag} {mg : Str → Option Value} {base : Heap}
theorem ok_take {T : List FnI} {cs : List (Str × PyData)} {i d : Nat} {nm : Str} {ns0 : List Str} {f : Addr} {fd : FuncData} (M : Md P K mg cs) (hT : T[i]? = some ⟨nm, pTake, ns0, .take⟩) (Fn : FnP K nm sTake f fd) :
    FnOk prog w K mg base (L2.CX prog w) 1 f fd pTake (spF P (callD T (d + 1)) i) := by
  refine Fn.ok scTake (fun vs H Q E h => ?_) (fun cdv A outer s H vs Q E hr h => ?_)
  · obtain ⟨DF, G, sl, p, e, h1, h2, htb, ra, hc, _⟩ := h
    rw [callD_s hT, runF_take] at hc
    obtain ⟨b, rfl, _⟩ := takeF_inv hc
    exact ra.len
  · obtain ⟨DF, G, sl, p, e, h1, h2, htb, ra, hc, kv, kx⟩ := h
    rw [callD_s hT, runF_take] at hc
    replace hc := takeF_inv hc
    obtain ⟨b, rfl, hc⟩ := hc
    have gInt : mg "int" = none := M.free _ (by decide)
    have gLen : mg "len" = none := M.free _ (by decide)
    refine ⟨_, (show PSs _ (defBody sTake) _ from pss_cons (ps_if (pt_cmpR op_lt (pv 1) pe_int (nomark _)) (pss_one (ps_ret pe_int)) pss_nil) <|
        pss_cons (ps_set (i := 2) scTake.nd rfl (.inl rfl) (pe_ix ix_list (pv 0) pe_int (fun _ _ => rfl))) <|
        pss_cons (ps_set (i := 3) scTake.nd rfl (.inl rfl) (pe_op op_mod (pe_callTy call_int1 rfl gInt PyProof.Rows.boot_int (pa_cons (pe_ix ix_list (pv 0) pe_int (fun _ _ => rfl)) pa_nil)) (pe_callB call_len_seq rfl gLen boot_len (pa_cons (pv 2) pa_nil)))) <|
        pss_cons (ps_set (i := 4) scTake.nd rfl (.inl rfl) (pe_ix ix_list (pv 2) (pv 3) (fun _ _ => rfl))) <|
        pss_cons (ps_if (pt_cmpR op_ge (pv 4) pe_int (nomark _)) (pss_cons (ps_asg (pe_op op_fdiv (pv 4) (pv 1)) (pg_sub (pv 2) (pv 3) set_list)) (pss_one (ps_ret (pe_op op_mod (pe_callTy call_int1 rfl gInt PyProof.Rows.boot_int (pa_cons (pv 4) pa_nil)) (pv 1))))) pss_nil) <|
        pss_cons (ps_asg (pe_op op_add (pe_ix ix_list (pv 0) pe_int (fun _ _ => rfl)) pe_int) (pg_sub (pv 0) pe_int set_list)) <|
        pss_cons (ps_set (i := 5) scTake.nd rfl (.inl rfl) (pe_op op_mod (pe_callTy call_int1 rfl gInt PyProof.Rows.boot_int (pa_cons (pe_op op_add (pe_op op_mul (pv 4) pe_int) (pe_op op_mul (pe_ix ix_list (pv 0) pe_int (fun _ _ => rfl)) pe_int)) pa_nil)) pe_int)) <|
        pss_cons (ps_set (i := 5) scTake.nd rfl (.inl rfl) (pe_op op_mod (pe_callTy call_int1 rfl gInt PyProof.Rows.boot_int (pa_cons (pe_op op_add (pe_op op_mul (pv 5) pe_int) (pe_op op_mul (pe_ix ix_list (pv 0) pe_int (fun _ _ => rfl)) pe_int)) pa_nil)) pe_int)) <|
        pss_one (ps_ret (pe_op op_mod (pe_callTy call_int1 rfl gInt PyProof.Rows.boot_int (pa_cons (pe_op op_fdiv (pv 5) pe_int) pa_nil)) (pv 1)))), ?pure⟩
    case pure =>
      cases ra with
      | cons a1 ra =>
        cases ra with
        | cons a2 ra =>
          cases ra
          obtain ⟨q, rfl, rfl⟩ := a1
          cases a2
          obtain ⟨hnt, g1, g2, g3, pos, cells, e1, e2, hc1, hc2⟩ := h2
          have fin : ∀ (n : Int) (H' : Hp) (pos' : Int) (cells' : List Int), p (.int n) [.st, .v (.int b)] → cells'.length = cells.length → H' q.1 = some (.lst [.int pos', .ref q.2]) → H' q.2 = some (.lst (cells'.map V.int)) → (∀ a, a ≠ q.1 → a ≠ q.2 → H' a = H a) → Q (.int n) H' := fun n H' pos' cells' hp hl k1 k2 k3 => by
            refine kv _ H' G _ _ hp ⟨Sub.refl G, fun a o e _ m => (k3 a m.1 m.2).trans e, fun _ _ e => .inl e, fun a e u z => ?_, fun t => tabs_lst t fun a o e n => (k3 a (fun z => n _ (by rw [z, e1] at e; cases e; rfl)) (fun z => n _ (by rw [z, e2] at e; cases e; rfl))).trans e⟩ (fun a o e => ?_) ⟨hnt, g1, g2, g3, pos', cells', k1, k2, fun z => ?_, by omega⟩ (.int n)
            · by_cases z1 : a = q.1
              · exact (e.no (by rw [z1]; exact k1)).elim
              · by_cases z2 : a = q.2
                · exact (e.no (by rw [z2]; exact k2)).elim
                · exact e u ((k3 a z1 z2).trans z)
            · rw [k3 a (fun z => by rw [z, g1] at e; cases e) (fun z => by rw [z, g2] at e; cases e)]
              exact h1 a o e
            · subst z
              cases cells with
              | nil => exact hc1 rfl
              | cons _ _ => cases hl
          have hlen : 0 < cells.length := by
            cases cells with
            | nil => exact absurd rfl hc1
            | cons _ _ => simp
          refine ⟨_, rfl, b, 2, rfl, rfl, _, rfl, ?_⟩
          show ite _ _ _
          by_cases hb : b < 2
          · rw [if_pos hb] at hc
            rw [if_pos (decide_eq_true hb)]
            exact fin 0 H pos cells hc rfl e1 e2 fun _ _ _ => rfl
          · rw [if_neg hb] at hc
            rw [if_neg (by simpa using hb)]
            obtain ⟨hb2, hc⟩ := hc
            have hn : ∀ x : Int, p (.int (x % b)) [.st, .v (.int b)] := fun x => by
              have h0 := Int.emod_nonneg x (show b ≠ 0 by omega)
              have h1 := Int.emod_lt_of_pos x (show 0 < b by omega)
              have := hc (x % b).toNat (by omega)
              rwa [Int.toNat_of_nonneg h0] at this
            have s0 : 0 ≤ pos % ((cells.map V.int).length : Int) := Int.emod_nonneg _ (by rw [List.length_map]; omega)
            have s1 : pos % ((cells.map V.int).length : Int) < cells.length := by rw [List.length_map]; exact Int.emod_lt_of_pos _ (by omega)
            have hix : ixN (cells.map V.int).length (pos % ((cells.map V.int).length : Int)) = some (pos % ((cells.map V.int).length : Int)).toNat := by
              unfold ixN
              rw [if_pos s0, if_pos (by rw [List.length_map] at s1 ⊢; exact s1)]
            obtain ⟨x, hx⟩ : ∃ x, cells[(pos % ((cells.map V.int).length : Int)).toNat]? = some x := ⟨_, List.getElem?_eq_getElem (by omega)⟩
            have hat : atI (cells.map V.int) (pos % ((cells.map V.int).length : Int)) = some (.int x) := by
              unfold atI
              rw [hix]
              show (cells.map V.int)[(pos % ((cells.map V.int).length : Int)).toNat]? = _
              rw [List.getElem?_map, hx]; rfl
            refine ⟨.ref q.1, rfl, q.1, [.int pos, .ref q.2], 1, .ref q.2, rfl, rfl, SqL.of e1, rfl, ?_⟩
            refine ⟨.ref q.1, rfl, q.1, [.int pos, .ref q.2], 0, .int pos, rfl, rfl, SqL.of e1, rfl, .inl ⟨pos, rfl, .ref q.2, rfl, q.2, cells.map V.int, rfl, .inl (SqL.of e2), pos, (cells.map V.int).length, rfl, rfl, by rw [List.length_map]; omega, ?_⟩⟩
            refine ⟨.ref q.2, rfl, .int _, rfl, q.2, cells.map V.int, _, .int x, rfl, rfl, SqL.of e2, hat, ?_⟩
            refine ⟨.int x, rfl, x, 1000000000000000000, rfl, rfl, _, rfl, ?_⟩
            show ite _ _ _
            by_cases hx8 : (1000000000000000000 : Int) ≤ x
            · rw [if_pos (decide_eq_true hx8)]
              refine ⟨.int x, rfl, .int b, rfl, x, b, rfl, rfl, ⟨by omega, by omega⟩, .ref q.2, rfl, .int _, rfl, q.2, cells.map V.int, _, _, rfl, rfl, e2, hix, ?_⟩
              refine ⟨.int x, rfl, .inl ⟨x, rfl, .int b, rfl, x, b, rfl, rfl, by omega, ?_⟩⟩
              exact fin _ _ pos (cells.set (pos % ((cells.map V.int).length : Int)).toNat (x / b)) (hn x) (by simp) (by rw [upd_ne g3]; exact e1) (by rw [upd_same, List.map_set]) fun a _ h => upd_ne h
            · rw [if_neg (by simpa using hx8)]
              refine ⟨.ref q.1, rfl, q.1, [.int pos, .ref q.2], 0, .int pos, rfl, rfl, SqL.of e1, rfl, pos, 1, rfl, rfl, .ref q.1, rfl, q.1, [.int pos, .ref q.2], 0, 0, rfl, rfl, e1, rfl, ?_⟩
              have e3 : (upd H q.1 (.lst [.int (pos + 1), .ref q.2])) q.1 = some (.lst [.int (pos + 1), .ref q.2]) := upd_same
              refine ⟨.int x, rfl, x, 48271, rfl, rfl, .inr ⟨by omega, by omega⟩, .ref q.1, rfl, q.1, [.int (pos + 1), .ref q.2], 0, .int (pos + 1), rfl, rfl, SqL.of e3, rfl, pos + 1, 69621, rfl, rfl, .inr ⟨by omega, by omega⟩, _, _, rfl, rfl, .inl ⟨_, rfl, _, 2147483647, rfl, rfl, by omega, ?_⟩⟩
              refine ⟨_, rfl, _, 16807, rfl, rfl, .inr ⟨by omega, by omega⟩, .ref q.1, rfl, q.1, [.int (pos + 1), .ref q.2], 0, .int (pos + 1), rfl, rfl, SqL.of e3, rfl, pos + 1, 7919, rfl, rfl, .inr ⟨by omega, by omega⟩, _, _, rfl, rfl, .inl ⟨_, rfl, _, 1000000007, rfl, rfl, by omega, ?_⟩⟩
              refine ⟨_, rfl, _, 7, rfl, rfl, ⟨by omega, by omega⟩, .inl ⟨_, rfl, .int b, rfl, _, b, rfl, rfl, by omega, ?_⟩⟩
              exact fin _ _ (pos + 1) cells (hn _) rfl upd_same (by rw [upd_ne (Ne.symm g3)]; exact e2) fun a h _ => upd_ne h
end
end Pv
set_option linter.all false
set_option maxRecDepth 100000
namespace Pv
open PySem
def Fis_place : FnI := ⟨"is_place", ["value"], ["value", "one"], .code
    (.cons (.ifs (.or (.not (.isa 0 (.nm 0))) (.cmp .ne (.prim .len (.cons (.nm 0) .nil)) (.cst (.int 3)))) (.cons (.ret (.cst (.bool false)))
    .nil) .nil)
    (.cons (.ifs (.not (.prim .all (.cons (.comp (.and (.isa 1 (.nm 1)) (.not (.isa 2 (.nm 1)))) (.nm 1) (.seq (.nm 0)) (.cst (.bool true))) .nil))) (.cons (.ret (.cst (.bool false)))
    .nil) .nil)
    (.cons (.ret (.and (.cmp .le (.prim .abs (.cons (.idx (.nm 0) (.cst (.int 0))) .nil)) (.gl 0 "MOST_PLACE" (.int 20))) (.and (.cmp .le (.prim .abs (.cons (.idx (.nm 0) (.cst (.int 1))) .nil)) (.gl 0 "MOST_PLACE" (.int 20))) (.chn .le .le (.cst (.int 0)) (.idx (.nm 0) (.cst (.int 2))) (.cst (.int 3))))))
    .nil)))⟩
def Fare_places : FnI := ⟨"are_places", ["value"], ["value", "one"], .code
    (.cons (.ifs (.or (.not (.isa 0 (.nm 0))) (.or (.not (.chn .le .le (.cst (.int 1)) (.prim .len (.cons (.nm 0) .nil)) (.cst (.int 8)))) (.not (.prim .all (.cons (.comp (.call 0 (.cons (.nm 1) .nil)) (.nm 1) (.seq (.nm 0)) (.cst (.bool true))) .nil))))) (.cons (.ret (.cst (.bool false)))
    .nil) .nil)
    (.cons (.ret (.cmp .eq (.lenset (.comp (.sl (.nm 1) (.cst .none) (.cst (.int 2))) (.nm 1) (.seq (.nm 0)) (.cst (.bool true)))) (.prim .len (.cons (.nm 0) .nil))))
    .nil))⟩
def Fis_name : FnI := ⟨"is_name", ["value"], ["value", "letter"], .code
    (.cons (.ifs (.or (.not (.isa 3 (.nm 0))) (.or (.not (.chn .le .le (.cst (.int 1)) (.prim .len (.cons (.nm 0) .nil)) (.gl 1 "MOST_NAME" (.int 8)))) (.cmp .in_ (.nm 0) (.gl 2 "WORDS" (.tuple [(.str "dancer"), (.str "group"), (.str "shape"), (.str "start"), (.str "call"), (.str "on"), (.str "as"), (.str "times"), (.str "only"), (.str "left"), (.str "right"), (.str "about"), (.str "step"), (.str "back"), (.str "north"), (.str "east"), (.str "south"), (.str "west")]))))) (.cons (.ret (.cst (.bool false)))
    .nil) .nil)
    (.cons (.ret (.prim .all (.cons (.comp (.cmp .in_ (.nm 1) (.gl 3 "LETTERS" (.str "abcdefghijklmnopqrstuvwxyz"))) (.nm 1) (.chr (.nm 0)) (.cst (.bool true))) .nil)))
    .nil))⟩
def Fis_program : FnI := ⟨"is_program", ["value", "calls", "groups", "level"], ["value", "calls", "groups", "level"], .code
    (.cons (.ifs (.or (.not (.isa 0 (.nm 0))) (.or (.cmp .eq (.prim .len (.cons (.nm 0) .nil)) (.cst (.int 0))) (.or (.not (.isa 3 (.idx (.nm 0) (.cst (.int 0))))) (.cmp .gt (.nm 3) (.gl 4 "MOST_DEEP" (.int 6)))))) (.cons (.ret (.cst (.bool false)))
    .nil) .nil)
    (.cons (.ifs (.cmp .eq (.idx (.nm 0) (.cst (.int 0))) (.cst (.str "row"))) (.cons (.ret (.call 4 (.cons (.nm 0) (.cons (.nm 1) (.cons (.nm 2) (.cons (.nm 3) .nil))))))
    .nil) .nil)
    (.cons (.ret (.call 5 (.cons (.nm 0) (.cons (.nm 1) (.cons (.nm 2) (.cons (.nm 3) .nil))))))
    .nil)))⟩
def Bis_row_1 : CSs :=
    (.cons (.set 5 (.ife (.and (.isa 0 (.nm 4)) (.and (.cmp .gt (.prim .len (.cons (.nm 4) .nil)) (.cst (.int 0))) (.cmp .eq (.idx (.nm 4) (.cst (.int 0))) (.cst (.str "row"))))) (.cst (.int 1)) (.cst (.int 0))))
    (.cons (.ifs (.not (.call 3 (.cons (.nm 4) (.cons (.nm 1) (.cons (.nm 2) (.cons (.bin .add (.nm 3) (.nm 5)) .nil)))))) (.cons (.ret (.cst (.bool false)))
    .nil) .nil)
    .nil))
def Fis_row : FnI := ⟨"is_row", ["value", "calls", "groups", "level"], ["value", "calls", "groups", "level", "one", "deeper"], .code
    (.cons (.ifs (.or (.cmp .ne (.prim .len (.cons (.nm 0) .nil)) (.cst (.int 2))) (.or (.not (.isa 0 (.idx (.nm 0) (.cst (.int 1))))) (.not (.chn .le .le (.cst (.int 2)) (.prim .len (.cons (.idx (.nm 0) (.cst (.int 1))) .nil)) (.gl 5 "MOST_ROW" (.int 12)))))) (.cons (.ret (.cst (.bool false)))
    .nil) .nil)
    (.cons (.fors (.nm 4) (.seq (.idx (.nm 0) (.cst (.int 1)))) Bis_row_1 [4, 5])
    (.cons (.ret (.cst (.bool true)))
    .nil)))⟩
def Fis_single : FnI := ⟨"is_single", ["value", "calls", "groups", "level"], ["value", "calls", "groups", "level", "word", "rest", "deeper"], .code
    (.cons (.par [(4, false), (5, false)] (.cons (.idx (.nm 0) (.cst (.int 0))) (.cons (.sl (.nm 0) (.cst (.int 1)) (.cst .none)) .nil)))
    (.cons (.ifs (.cmp .eq (.nm 4) (.cst (.str "call"))) (.cons (.ret (.and (.cmp .eq (.prim .len (.cons (.nm 5) .nil)) (.cst (.int 1))) (.and (.isa 3 (.idx (.nm 5) (.cst (.int 0)))) (.cmp .in_ (.idx (.nm 5) (.cst (.int 0))) (.nm 1)))))
    .nil) .nil)
    (.cons (.ifs (.cmp .in_ (.nm 4) (.gl 6 "TURNS" (.tuple [(.str "left"), (.str "right"), (.str "about"), (.str "step"), (.str "back")]))) (.cons (.ret (.cmp .eq (.prim .len (.cons (.nm 5) .nil)) (.cst (.int 0))))
    .nil) .nil)
    (.cons (.ifs (.or (.cmp .nin (.nm 4) (.tup (.cons (.cst (.str "times")) (.cons (.cst (.str "only")) .nil)))) (.cmp .ne (.prim .len (.cons (.nm 5) .nil)) (.cst (.int 2)))) (.cons (.ret (.cst (.bool false)))
    .nil) .nil)
    (.cons (.ifs (.cmp .eq (.nm 4) (.cst (.str "times"))) (.cons (.ifs (.or (.not (.isa 1 (.idx (.nm 5) (.cst (.int 0))))) (.or (.isa 2 (.idx (.nm 5) (.cst (.int 0)))) (.not (.chn .le .le (.cst (.int 1)) (.idx (.nm 5) (.cst (.int 0))) (.cst (.int 20)))))) (.cons (.ret (.cst (.bool false)))
    .nil) .nil)
    .nil) (.cons (.ifs (.or (.not (.isa 3 (.idx (.nm 5) (.cst (.int 0))))) (.cmp .nin (.idx (.nm 5) (.cst (.int 0))) (.nm 2))) (.cons (.ret (.cst (.bool false)))
    .nil) .nil)
    .nil))
    (.cons (.set 6 (.ife (.and (.isa 0 (.idx (.nm 5) (.cst (.int 1)))) (.and (.cmp .gt (.prim .len (.cons (.idx (.nm 5) (.cst (.int 1))) .nil)) (.cst (.int 0))) (.cmp .eq (.idx (.idx (.nm 5) (.cst (.int 1))) (.cst (.int 0))) (.cst (.str "row"))))) (.cst (.int 2)) (.cst (.int 1))))
    (.cons (.ret (.call 3 (.cons (.idx (.nm 5) (.cst (.int 1))) (.cons (.nm 1) (.cons (.nm 2) (.cons (.bin .add (.nm 3) (.nm 6)) .nil))))))
    .nil)))))))⟩
def Bis_dance_1 : CSs :=
    (.cons (.ifs (.or (.cmp .gt (.prim .len (.cons (.nm 2) .nil)) (.gl 8 "MOST_TOLD" (.int 20))) (.not (.prim .all (.cons (.comp (.and (.isa 0 (.nm 3)) (.cmp .eq (.prim .len (.cons (.nm 3) .nil)) (.cst (.int 2)))) (.nm 3) (.seq (.nm 2)) (.cst (.bool true))) .nil)))) (.cons (.ret (.cst (.bool false)))
    .nil) .nil)
    (.cons (.ext 1 (.comp (.idx (.nm 3) (.cst (.int 0))) (.nm 3) (.seq (.nm 2)) (.cst (.bool true))))
    .nil))
def Fis_dance : FnI := ⟨"is_dance", ["value"], ["value", "names", "table", "row", "one"], .code
    (.cons (.ifs (.or (.not (.isa 0 (.nm 0))) (.or (.cmp .ne (.prim .len (.cons (.nm 0) .nil)) (.cst (.int 6))) (.cmp .ne (.idx (.nm 0) (.cst (.int 0))) (.cst (.str "dance"))))) (.cons (.ret (.cst (.bool false)))
    .nil) .nil)
    (.cons (.ifs (.or (.not (.prim .all (.cons (.comp (.isa 0 (.nm 4)) (.nm 4) (.seq (.sl (.nm 0) (.cst (.int 1)) (.cst .none))) (.cst (.bool true))) .nil))) (.not (.chn .le .le (.cst (.int 1)) (.prim .len (.cons (.idx (.nm 0) (.cst (.int 1))) .nil)) (.gl 7 "MOST_DANCERS" (.int 8))))) (.cons (.ret (.cst (.bool false)))
    .nil) .nil)
    (.cons (.own 1 (.prim .lst (.cons (.idx (.nm 0) (.cst (.int 1))) .nil)))
    (.cons (.fors (.nm 2) (.seq (.sl (.nm 0) (.cst (.int 2)) (.cst (.int 5)))) Bis_dance_1 [2, 3])
    (.cons (.ifs (.or (.not (.prim .all (.cons (.comp (.call 2 (.cons (.nm 4) .nil)) (.nm 4) (.seq (.bo 1)) (.cst (.bool true))) .nil))) (.cmp .lt (.lenset (.bo 1)) (.prim .len (.cons (.bo 1) .nil)))) (.cons (.ret (.cst (.bool false)))
    .nil) .nil)
    (.cons (.ifs (.or (.not (.call 1 (.cons (.idx (.nm 0) (.cst (.int 5))) .nil))) (.cmp .ne (.prim .len (.cons (.idx (.nm 0) (.cst (.int 5))) .nil)) (.prim .len (.cons (.idx (.nm 0) (.cst (.int 1))) .nil)))) (.cons (.ret (.cst (.bool false)))
    .nil) .nil)
    (.cons (.ret (.call 7 (.cons (.nm 0) .nil)))
    .nil)))))))⟩
def Bare_tables_1 : CSs :=
    (.cons (.ifs (.not (.call 8 (.cons (.nm 2) (.cons (.idx (.nm 0) (.cst (.int 1))) .nil)))) (.cons (.ret (.cst (.bool false)))
    .nil) .nil)
    .nil)
def Bare_tables_2 : CSs :=
    (.cons (.ifs (.not (.cab 5 9 (.cons (.nm 2) (.cons (.nm 3) (.cons (.nm 5) (.cons (.nm 4) .nil)))))) (.cons (.ret (.cst (.bool false)))
    .nil) .nil)
    (.cons (.app 5 (.nm 1))
    .nil))
def Fare_tables : FnI := ⟨"are_tables", ["value"], ["value", "name", "told", "shapes", "groups", "calls"], .code
    (.cons (.fors (.tp [1, 2]) (.seq (.idx (.nm 0) (.cst (.int 2)))) Bare_tables_1 [1, 2])
    (.cons (.ifs (.not (.prim .all (.cons (.comp (.call 1 (.cons (.nm 2) .nil)) (.tp [1, 2]) (.seq (.idx (.nm 0) (.cst (.int 3)))) (.cst (.bool true))) .nil))) (.cons (.ret (.cst (.bool false)))
    .nil) .nil)
    (.cons (.par [(3, false), (4, false), (5, true)] (.cons (.prim .dct (.cons (.idx (.nm 0) (.cst (.int 3))) .nil)) (.cons (.comp (.nm 1) (.tp [1, 2]) (.seq (.idx (.nm 0) (.cst (.int 2)))) (.cst (.bool true))) (.cons (.lst .nil) .nil))))
    (.cons (.fors (.tp [1, 2]) (.seq (.idx (.nm 0) (.cst (.int 4)))) Bare_tables_2 [1, 2])
    (.cons (.ret (.cst (.bool true)))
    .nil)))))⟩
def Fis_group : FnI := ⟨"is_group", ["value", "dancers"], ["value", "dancers", "one"], .code
    (.cons (.ifs (.or (.not (.isa 0 (.nm 0))) (.cmp .eq (.prim .len (.cons (.nm 0) .nil)) (.cst (.int 0)))) (.cons (.ret (.cst (.bool false)))
    .nil) .nil)
    (.cons (.ret (.cmp .eq (.prim .lst (.cons (.nm 0) .nil)) (.comp (.nm 2) (.nm 2) (.seq (.nm 1)) (.cmp .in_ (.nm 2) (.nm 0)))))
    .nil))⟩
def Fis_call : FnI := ⟨"is_call", ["value", "shapes", "calls", "groups"], ["value", "shapes", "calls", "groups"], .code
    (.cons (.ifs (.or (.not (.isa 0 (.nm 0))) (.or (.cmp .lt (.prim .len (.cons (.nm 0) .nil)) (.cst (.int 2))) (.cmp .nin (.idx (.nm 0) (.cst (.int 0))) (.tup (.cons (.cst (.str "on")) (.cons (.cst (.str "as")) .nil)))))) (.cons (.ret (.cst (.bool false)))
    .nil) .nil)
    (.cons (.ifs (.cmp .eq (.idx (.nm 0) (.cst (.int 0))) (.cst (.str "as"))) (.cons (.ret (.and (.cmp .eq (.prim .len (.cons (.nm 0) .nil)) (.cst (.int 2))) (.call 3 (.cons (.idx (.nm 0) (.cst (.int 1))) (.cons (.nm 2) (.cons (.nm 3) (.cons (.cst (.int 0)) .nil)))))))
    .nil) .nil)
    (.cons (.ifs (.or (.cmp .ne (.prim .len (.cons (.nm 0) .nil)) (.cst (.int 3))) (.or (.not (.isa 3 (.idx (.nm 0) (.cst (.int 1))))) (.cmp .nin (.idx (.nm 0) (.cst (.int 1))) (.nm 1)))) (.cons (.ret (.cst (.bool false)))
    .nil) .nil)
    (.cons (.ret (.and (.call 1 (.cons (.idx (.nm 0) (.cst (.int 2))) .nil)) (.cmp .eq (.prim .len (.cons (.idx (.nm 0) (.cst (.int 2))) .nil)) (.prim .len (.cons (.idx (.nm 1) (.idx (.nm 0) (.cst (.int 1)))) .nil)))))
    .nil))))⟩
def Bis_set_1 : CSs :=
    (.cons (.ifs (.or (.not (.isa 0 (.nm 2))) (.cmp .ne (.prim .len (.cons (.nm 2) .nil)) (.cst (.int 3)))) (.cons (.ret (.cst (.bool false)))
    .nil) .nil)
    (.cons (.ifs (.or (.not (.prim .all (.cons (.comp (.and (.isa 1 (.nm 3)) (.not (.isa 2 (.nm 3)))) (.nm 3) (.seq (.nm 2)) (.cst (.bool true))) .nil))) (.not (.chn .le .le (.cst (.int 0)) (.idx (.nm 2) (.cst (.int 2))) (.cst (.int 3))))) (.cons (.ret (.cst (.bool false)))
    .nil) .nil)
    .nil))
def Fis_set : FnI := ⟨"is_set", ["dance", "value"], ["dance", "value", "one", "n"], .code
    (.cons (.ifs (.or (.not (.isa 0 (.nm 1))) (.cmp .ne (.prim .len (.cons (.nm 1) .nil)) (.prim .len (.cons (.idx (.nm 0) (.cst (.int 1))) .nil)))) (.cons (.ret (.cst (.bool false)))
    .nil) .nil)
    (.cons (.fors (.nm 2) (.seq (.nm 1)) Bis_set_1 [2, 3])
    (.cons (.ret (.cmp .eq (.lenset (.comp (.sl (.nm 2) (.cst .none) (.cst (.int 2))) (.nm 2) (.seq (.nm 1)) (.cst (.bool true)))) (.prim .len (.cons (.nm 1) .nil))))
    .nil)))⟩
def Fnames_of : FnI := ⟨"names_of", ["dance"], ["dance", "name", "told"], .code
    (.cons (.ret (.comp (.nm 1) (.tp [1, 2]) (.seq (.idx (.nm 0) (.cst (.int 4)))) (.cst (.bool true))))
    .nil)⟩
def Fknown : FnI := ⟨"known", ["dance", "program"], ["dance", "program", "word", "one", "name", "told"], .code
    (.cons (.set 2 (.idx (.nm 1) (.cst (.int 0))))
    (.cons (.ifs (.cmp .eq (.nm 2) (.cst (.str "row"))) (.cons (.ret (.prim .all (.cons (.comp (.call 12 (.cons (.nm 0) (.cons (.nm 3) .nil))) (.nm 3) (.seq (.idx (.nm 1) (.cst (.int 1)))) (.cst (.bool true))) .nil)))
    .nil) .nil)
    (.cons (.ifs (.cmp .eq (.nm 2) (.cst (.str "call"))) (.cons (.ret (.cmp .in_ (.idx (.nm 1) (.cst (.int 1))) (.comp (.nm 4) (.tp [4, 5]) (.seq (.idx (.nm 0) (.cst (.int 4)))) (.cst (.bool true)))))
    .nil) .nil)
    (.cons (.ifs (.cmp .eq (.nm 2) (.cst (.str "only"))) (.cons (.ret (.and (.cmp .in_ (.idx (.nm 1) (.cst (.int 1))) (.comp (.nm 4) (.tp [4, 5]) (.seq (.idx (.nm 0) (.cst (.int 2)))) (.cst (.bool true)))) (.call 12 (.cons (.nm 0) (.cons (.idx (.nm 1) (.cst (.int 2))) .nil)))))
    .nil) .nil)
    (.cons (.ret (.ife (.cmp .eq (.nm 2) (.cst (.str "times"))) (.call 12 (.cons (.nm 0) (.cons (.idx (.nm 1) (.cst (.int 2))) .nil))) (.cst (.bool true))))
    .nil)))))⟩
def Fcount : FnI := ⟨"count", ["dance", "program"], ["dance", "program", "word", "told", "one"], .code
    (.cons (.set 2 (.idx (.nm 1) (.cst (.int 0))))
    (.cons (.ifs (.cmp .eq (.nm 2) (.cst (.str "row"))) (.cons (.ret (.prim .sum (.cons (.comp (.call 13 (.cons (.nm 0) (.cons (.nm 4) .nil))) (.nm 4) (.seq (.idx (.nm 1) (.cst (.int 1)))) (.cst (.bool true))) .nil)))
    .nil) .nil)
    (.cons (.ifs (.cmp .eq (.nm 2) (.cst (.str "times"))) (.cons (.ret (.bin .mul (.idx (.nm 1) (.cst (.int 1))) (.call 13 (.cons (.nm 0) (.cons (.idx (.nm 1) (.cst (.int 2))) .nil)))))
    .nil) .nil)
    (.cons (.ifs (.cmp .eq (.nm 2) (.cst (.str "only"))) (.cons (.ret (.call 13 (.cons (.nm 0) (.cons (.idx (.nm 1) (.cst (.int 2))) .nil))))
    .nil) .nil)
    (.cons (.ifs (.cmp .eq (.nm 2) (.cst (.str "call"))) (.cons (.set 3 (.idx (.prim .dct (.cons (.idx (.nm 0) (.cst (.int 4))) .nil)) (.idx (.nm 1) (.cst (.int 1)))))
    (.cons (.ret (.bin .add (.cst (.int 1)) (.ife (.cmp .eq (.idx (.nm 3) (.cst (.int 0))) (.cst (.str "as"))) (.call 13 (.cons (.nm 0) (.cons (.idx (.nm 3) (.cst (.int 1))) .nil))) (.cst (.int 0)))))
    .nil)) .nil)
    (.cons (.ret (.cst (.int 1)))
    .nil))))))⟩
def Fis_open : FnI := ⟨"is_open", ["dance", "program"], ["dance", "program", "word", "told", "one"], .code
    (.cons (.set 2 (.idx (.nm 1) (.cst (.int 0))))
    (.cons (.ifs (.cmp .eq (.nm 2) (.cst (.str "row"))) (.cons (.ret (.prim .all (.cons (.comp (.call 14 (.cons (.nm 0) (.cons (.nm 4) .nil))) (.nm 4) (.seq (.idx (.nm 1) (.cst (.int 1)))) (.cst (.bool true))) .nil)))
    .nil) .nil)
    (.cons (.ifs (.cmp .eq (.nm 2) (.cst (.str "times"))) (.cons (.ret (.call 14 (.cons (.nm 0) (.cons (.idx (.nm 1) (.cst (.int 2))) .nil))))
    .nil) .nil)
    (.cons (.ifs (.cmp .eq (.nm 2) (.cst (.str "call"))) (.cons (.set 3 (.idx (.prim .dct (.cons (.idx (.nm 0) (.cst (.int 4))) .nil)) (.idx (.nm 1) (.cst (.int 1)))))
    (.cons (.ret (.or (.cmp .eq (.idx (.nm 3) (.cst (.int 0))) (.cst (.str "on"))) (.call 14 (.cons (.nm 0) (.cons (.idx (.nm 3) (.cst (.int 1))) .nil)))))
    .nil)) .nil)
    (.cons (.ret (.cmp .ne (.nm 2) (.cst (.str "only"))))
    .nil)))))⟩
def F_law_take : FnI := ⟨"_law_take", ["state", "bound"], ["state", "bound"], .take⟩
def F_law_pick : FnI := ⟨"_law_pick", ["state", "row"], ["state", "row"], .code
    (.cons (.ret (.idx (.nm 1) (.call 15 (.cons (.stn 0) (.cons (.prim .len (.cons (.nm 1) .nil)) .nil)))))
    .nil)⟩
def B_law_goals_1 : CSs :=
    (.cons (.set 5 (.call 16 (.cons (.stn 0) (.cons (.nm 2) .nil))))
    (.cons (.app 3 (.nm 5))
    (.cons (.set 2 (.comp (.nm 8) (.nm 8) (.seq (.nm 2)) (.cmp .ne (.nm 8) (.nm 5))))
    .nil)))
def F_law_goals : FnI := ⟨"_law_goals", ["state", "shape"], ["state", "shape", "left", "order", "k", "spot", "quarters", "own", "one"], .code
    (.cons (.par [(2, false), (3, true)] (.cons (.rng false (.prim .len (.cons (.nm 1) .nil))) (.cons (.lst .nil) .nil)))
    (.cons (.fors (.nm 4) (.rng (.prim .len (.cons (.nm 1) .nil))) B_law_goals_1 [4, 5, 8])
    (.cons (.par [(6, false), (7, false)] (.cons (.call 15 (.cons (.stn 0) (.cons (.cst (.int 4)) .nil))) (.cons (.cmp .eq (.call 15 (.cons (.stn 0) (.cons (.cst (.int 3)) .nil))) (.cst (.int 0))) .nil)))
    (.cons (.ret (.prim .tup (.cons (.comp (.bin .add (.sl (.idx (.nm 1) (.nm 4)) (.cst .none) (.cst (.int 2))) (.tup (.cons (.bin .mod (.prim .int (.cons (.bin .add (.idx (.idx (.nm 1) (.nm 4)) (.cst (.int 2))) (.ife (.nm 7) (.call 15 (.cons (.stn 0) (.cons (.cst (.int 4)) .nil))) (.nm 6))) .nil)) (.cst (.int 4))) .nil))) (.nm 4) (.seq (.bo 3)) (.cst (.bool true))) .nil)))
    .nil))))⟩
def F_law_program : FnI := ⟨"_law_program", ["state", "calls", "groups", "deep"], ["state", "calls", "groups", "deep", "sort", "k"], .code
    (.cons (.set 4 (.call 15 (.cons (.stn 0) (.cons (.cst (.int 8)) .nil))))
    (.cons (.ifs (.and (.cmp .gt (.nm 3) (.cst (.int 0))) (.cmp .eq (.nm 4) (.cst (.int 0)))) (.cons (.ret (.tup (.cons (.cst (.str "times")) (.cons (.bin .add (.cst (.int 1)) (.call 15 (.cons (.stn 0) (.cons (.cst (.int 4)) .nil)))) (.cons (.call 18 (.cons (.stn 0) (.cons (.nm 1) (.cons (.nm 2) (.cons (.bin .sub (.nm 3) (.cst (.int 1))) .nil))))) .nil)))))
    .nil) .nil)
    (.cons (.ifs (.and (.cmp .gt (.nm 3) (.cst (.int 0))) (.and (.cmp .eq (.nm 4) (.cst (.int 1))) (.cmp .ne (.nm 2) (.lst .nil)))) (.cons (.ret (.tup (.cons (.cst (.str "only")) (.cons (.call 16 (.cons (.stn 0) (.cons (.nm 2) .nil))) (.cons (.call 18 (.cons (.stn 0) (.cons (.nm 1) (.cons (.nm 2) (.cons (.bin .sub (.nm 3) (.cst (.int 1))) .nil))))) .nil)))))
    .nil) .nil)
    (.cons (.ifs (.and (.cmp .gt (.nm 3) (.cst (.int 0))) (.cmp .lt (.nm 4) (.cst (.int 4)))) (.cons (.ret (.tup (.cons (.cst (.str "row")) (.cons (.prim .tup (.cons (.comp (.call 18 (.cons (.stn 0) (.cons (.nm 1) (.cons (.nm 2) (.cons (.bin .sub (.nm 3) (.cst (.int 1))) .nil))))) (.nm 5) (.rng (.bin .add (.cst (.int 2)) (.call 15 (.cons (.stn 0) (.cons (.cst (.int 2)) .nil))))) (.cst (.bool true))) .nil)) .nil))))
    .nil) .nil)
    (.cons (.ifs (.and (.cmp .ne (.nm 1) (.lst .nil)) (.cmp .lt (.nm 4) (.cst (.int 7)))) (.cons (.ret (.tup (.cons (.cst (.str "call")) (.cons (.call 16 (.cons (.stn 0) (.cons (.nm 1) .nil))) .nil))))
    .nil) .nil)
    (.cons (.ret (.tup (.cons (.call 16 (.cons (.stn 0) (.cons (.lst (.cons (.cst (.str "left")) (.cons (.cst (.str "right")) (.cons (.cst (.str "about")) .nil)))) .nil))) .nil)))
    .nil))))))⟩
def B_law_dance_1 : CSs :=
    (.cons (.unp [10, 11] (.call 16 (.cons (.stn 0) (.cons (.prim .lst (.cons (.nm 7) .nil)) .nil))))
    (.cons (.app 8 (.tup (.cons (.idx (.lst (.cons (.cst (.str "swap")) (.cons (.cst (.str "pass")) (.cons (.cst (.str "spin")) .nil)))) (.nm 9)) (.cons (.tup (.cons (.cst (.str "on")) (.cons (.nm 10) (.cons (.call 17 (.cons (.stn 0) (.cons (.nm 11) .nil))) .nil)))) .nil))))
    .nil))
def B_law_dance_2 : CSs :=
    (.cons (.set 12 (.call 18 (.cons (.stn 0) (.cons (.comp (.nm 10) (.tp [10, 11]) (.seq (.bo 8)) (.cst (.bool true))) (.cons (.comp (.nm 10) (.tp [10, 11]) (.seq (.nm 6)) (.cst (.bool true))) (.cons (.cst (.int 2)) .nil))))))
    (.cons (.app 8 (.tup (.cons (.idx (.lst (.cons (.cst (.str "trade")) (.cons (.cst (.str "roll")) .nil))) (.nm 9)) (.cons (.tup (.cons (.cst (.str "as")) (.cons (.nm 12) .nil))) .nil))))
    .nil))
def F_law_dance : FnI := ⟨"_law_dance", ["state", "free"], ["state", "free", "many", "dancers", "base", "start", "groups", "shapes", "calls", "k", "name", "told", "program"], .code
    (.cons (.set 2 (.bin .add (.cst (.int 2)) (.call 15 (.cons (.stn 0) (.cons (.cst (.int 3)) .nil)))))
    (.cons (.par [(3, false), (4, false)] (.cons (.sl (.tup (.cons (.cst (.str "a")) (.cons (.cst (.str "b")) (.cons (.cst (.str "c")) (.cons (.cst (.str "d")) .nil))))) (.cst .none) (.nm 2)) (.cons (.call 15 (.cons (.stn 0) (.cons (.cst (.int 4)) .nil))) .nil)))
    (.cons (.set 5 (.prim .tup (.cons (.comp (.tup (.cons (.idx (.lst (.cons (.cst (.int 0)) (.cons (.cst (.int 1)) (.cons (.cst (.int 0)) (.cons (.cst (.int 1)) .nil))))) (.nm 9)) (.cons (.idx (.lst (.cons (.cst (.int 0)) (.cons (.cst (.int 0)) (.cons (.cst (.int 1)) (.cons (.cst (.int 1)) .nil))))) (.nm 9)) (.cons (.bin .mod (.prim .int (.cons (.bin .add (.nm 4) (.bin .mul (.cst (.int 2)) (.call 15 (.cons (.stn 0) (.cons (.cst (.int 2)) .nil))))) .nil)) (.cst (.int 4))) .nil)))) (.nm 9) (.rng (.nm 2)) (.cst (.bool true))) .nil)))
    (.cons (.set 6 (.ife (.nm 1) (.tup .nil) (.tup (.cons (.tup (.cons (.cst (.str "men")) (.cons (.slp (.nm 3) 2) .nil))) (.cons (.tup (.cons (.cst (.str "all")) (.cons (.nm 3) .nil))) .nil)))))
    (.cons (.set 7 (.tup (.cons (.tup (.cons (.cst (.str "single")) (.cons (.tup (.cons (.tup (.cons (.cst (.int 0)) (.cons (.cst (.int 0)) (.cons (.cst (.int 0)) .nil)))) .nil)) .nil))) (.cons (.tup (.cons (.cst (.str "pair")) (.cons (.tup (.cons (.tup (.cons (.cst (.int 0)) (.cons (.cst (.int 0)) (.cons (.cst (.int 0)) .nil)))) (.cons (.tup (.cons (.cst (.int 1)) (.cons (.cst (.int 0)) (.cons (.cst (.int 0)) .nil)))) .nil))) .nil))) (.cons (.tup (.cons (.cst (.str "face")) (.cons (.tup (.cons (.tup (.cons (.cst (.int 0)) (.cons (.cst (.int 0)) (.cons (.cst (.int 0)) .nil)))) (.cons (.tup (.cons (.cst (.int 0)) (.cons (.cst (.int 1)) (.cons (.cst (.int 2)) .nil)))) .nil))) .nil))) (.cons (.tup (.cons (.cst (.str "tandem")) (.cons (.tup (.cons (.tup (.cons (.cst (.int 0)) (.cons (.cst (.int 0)) (.cons (.cst (.int 0)) .nil)))) (.cons (.tup (.cons (.cst (.int 0)) (.cons (.cst (.int 1)) (.cons (.cst (.int 0)) .nil)))) .nil))) .nil))) .nil))))))
    (.cons (.own 8 (.lst .nil))
    (.cons (.fors (.nm 9) (.rng (.bin .add (.cst (.int 1)) (.call 15 (.cons (.stn 0) (.cons (.cst (.int 3)) .nil))))) B_law_dance_1 [9, 10, 11])
    (.cons (.fors (.nm 9) (.rng (.call 15 (.cons (.stn 0) (.cons (.cst (.int 3)) .nil)))) B_law_dance_2 [9, 10, 11, 12])
    (.cons (.ret (.tup (.cons (.cst (.str "dance")) (.cons (.nm 3) (.cons (.nm 6) (.cons (.nm 7) (.cons (.prim .tup (.cons (.bo 8) .nil)) (.cons (.nm 5) .nil))))))))
    .nil)))))))))⟩
def F_law_known : FnI := ⟨"_law_known", ["program", "calls", "groups"], ["program", "calls", "groups", "word", "one"], .code
    (.cons (.set 3 (.idx (.nm 0) (.cst (.int 0))))
    (.cons (.ifs (.cmp .eq (.nm 3) (.cst (.str "row"))) (.cons (.ret (.cmp .eq (.prim .len (.cons (.comp (.nm 4) (.nm 4) (.seq (.idx (.nm 0) (.cst (.int 1)))) (.not (.call 20 (.cons (.nm 4) (.cons (.nm 1) (.cons (.nm 2) .nil)))))) .nil)) (.cst (.int 0))))
    .nil) .nil)
    (.cons (.ifs (.cmp .eq (.nm 3) (.cst (.str "call"))) (.cons (.ret (.cmp .in_ (.idx (.nm 0) (.cst (.int 1))) (.nm 1)))
    .nil) .nil)
    (.cons (.ifs (.cmp .eq (.nm 3) (.cst (.str "only"))) (.cons (.ret (.and (.cmp .in_ (.idx (.nm 0) (.cst (.int 1))) (.nm 2)) (.call 20 (.cons (.idx (.nm 0) (.cst (.int 2))) (.cons (.nm 1) (.cons (.nm 2) .nil))))))
    .nil) .nil)
    (.cons (.ret (.ife (.cmp .eq (.nm 3) (.cst (.str "times"))) (.call 20 (.cons (.idx (.nm 0) (.cst (.int 2))) (.cons (.nm 1) (.cons (.nm 2) .nil)))) (.cst (.bool true))))
    .nil)))))⟩
def F_law_count : FnI := ⟨"_law_count", ["dance", "program"], ["dance", "program", "word", "told", "one"], .code
    (.cons (.set 2 (.idx (.nm 1) (.cst (.int 0))))
    (.cons (.ifs (.cmp .eq (.nm 2) (.cst (.str "row"))) (.cons (.ret (.prim .sum (.cons (.comp (.call 21 (.cons (.nm 0) (.cons (.nm 4) .nil))) (.nm 4) (.seq (.idx (.nm 1) (.cst (.int 1)))) (.cst (.bool true))) .nil)))
    .nil) .nil)
    (.cons (.ifs (.cmp .in_ (.nm 2) (.tup (.cons (.cst (.str "times")) (.cons (.cst (.str "only")) .nil)))) (.cons (.ret (.bin .mul (.ife (.cmp .eq (.nm 2) (.cst (.str "times"))) (.idx (.nm 1) (.cst (.int 1))) (.cst (.int 1))) (.call 21 (.cons (.nm 0) (.cons (.idx (.nm 1) (.cst (.int 2))) .nil)))))
    .nil) .nil)
    (.cons (.ifs (.cmp .eq (.nm 2) (.cst (.str "call"))) (.cons (.set 3 (.idx (.prim .dct (.cons (.prim .lst (.cons (.idx (.nm 0) (.cst (.int 4))) .nil)) .nil)) (.idx (.nm 1) (.cst (.int 1)))))
    (.cons (.ret (.bin .add (.cst (.int 1)) (.ife (.cmp .eq (.idx (.nm 3) (.cst (.int 0))) (.cst (.str "as"))) (.call 21 (.cons (.nm 0) (.cons (.idx (.nm 3) (.cst (.int 1))) .nil))) (.cst (.int 0)))))
    .nil)) .nil)
    (.cons (.ret (.cst (.int 1)))
    .nil)))))⟩
def F_law_open : FnI := ⟨"_law_open", ["dance", "program"], ["dance", "program", "word", "told", "one"], .code
    (.cons (.set 2 (.idx (.nm 1) (.cst (.int 0))))
    (.cons (.ifs (.cmp .eq (.nm 2) (.cst (.str "row"))) (.cons (.ret (.cmp .eq (.prim .len (.cons (.comp (.nm 4) (.nm 4) (.seq (.idx (.nm 1) (.cst (.int 1)))) (.not (.call 22 (.cons (.nm 0) (.cons (.nm 4) .nil))))) .nil)) (.cst (.int 0))))
    .nil) .nil)
    (.cons (.ifs (.cmp .eq (.nm 2) (.cst (.str "call"))) (.cons (.set 3 (.idx (.prim .dct (.cons (.prim .lst (.cons (.idx (.nm 0) (.cst (.int 4))) .nil)) .nil)) (.idx (.nm 1) (.cst (.int 1)))))
    (.cons (.ret (.or (.cmp .eq (.idx (.nm 3) (.cst (.int 0))) (.cst (.str "on"))) (.call 22 (.cons (.nm 0) (.cons (.idx (.nm 3) (.cst (.int 1))) .nil)))))
    .nil)) .nil)
    (.cons (.ret (.and (.cmp .ne (.nm 2) (.cst (.str "only"))) (.or (.cmp .ne (.nm 2) (.cst (.str "times"))) (.call 22 (.cons (.nm 0) (.cons (.idx (.nm 1) (.cst (.int 2))) .nil))))))
    .nil))))⟩
def F_law_bent : FnI := ⟨"_law_bent", ["program"], ["program", "found"], .code
    (.cons (.set 1 (.lst (.cons (.cst .none) (.cons (.tup .nil) (.cons (.prim .lst (.cons (.nm 0) .nil)) (.cons (.bin .add (.nm 0) (.tup (.cons (.cst (.int 1)) .nil))) (.cons (.tup (.cons (.cst (.str "none")) .nil)) (.cons (.tup (.cons (.cst (.str "call")) .nil)) (.cons (.tup (.cons (.cst (.str "call")) (.cons (.cst (.str "zoo")) .nil))) (.cons (.tup (.cons (.cst (.str "call")) (.cons (.cst (.int 1)) .nil))) (.cons (.tup (.cons (.cst (.str "times")) (.cons (.cst (.int 0)) (.cons (.nm 0) .nil)))) (.cons (.tup (.cons (.cst (.str "times")) (.cons (.cst (.int 21)) (.cons (.nm 0) .nil)))) .nil))))))))))))
    (.cons (.set 1 (.bin .add (.nm 1) (.lst (.cons (.tup (.cons (.cst (.str "times")) (.cons (.cst (.bool true)) (.cons (.nm 0) .nil)))) (.cons (.tup (.cons (.cst (.str "only")) (.cons (.cst (.str "zoo")) (.cons (.nm 0) .nil)))) (.cons (.tup (.cons (.cst (.str "row")) (.cons (.tup (.cons (.nm 0) .nil)) .nil))) (.cons (.tup (.cons (.cst (.str "row")) (.cons (.lst (.cons (.nm 0) (.cons (.nm 0) .nil))) .nil))) (.cons (.tup (.cons (.cst (.str "row")) (.cons (.tup .nil) .nil))) (.cons (.tup (.cons (.cst (.str "row")) (.cons (.bin .mul (.tup (.cons (.nm 0) .nil)) (.cst (.int 13))) .nil))) .nil)))))))))
    (.cons (.ret (.bin .add (.nm 1) (.lst (.cons (.tup (.cons (.cst (.str "times")) (.cons (.cst (.int 2)) (.cons (.cst .none) .nil)))) (.cons (.tup (.cons (.cst (.str "row")) (.cons (.tup (.cons (.nm 0) (.cons (.cst .none) .nil))) .nil))) (.cons (.tup (.cons (.cst (.str "left")) (.cons (.cst (.int 1)) .nil))) (.cons (.tup (.cons (.cst (.int 1)) .nil)) (.cons (.tup (.cons (.cst (.str "only")) (.cons (.cst (.str "men")) .nil))) .nil))))))))
    .nil)))⟩
def T : List FnI := [Fis_place, Fare_places, Fis_name, Fis_program, Fis_row, Fis_single, Fis_dance, Fare_tables, Fis_group, Fis_call, Fis_set, Fnames_of, Fknown, Fcount, Fis_open, F_law_take, F_law_pick, F_law_goals, F_law_program, F_law_dance, F_law_known, F_law_count, F_law_open, F_law_bent]
def fns : List Str := ["is_place", "are_places", "is_name", "is_program", "is_row", "is_single", "is_dance", "are_tables", "is_group", "is_call", "is_set", "names_of", "known", "count", "is_open", "_law_take", "_law_pick", "_law_goals", "_law_program", "_law_dance", "_law_known", "_law_count", "_law_open", "_law_bent"]
def Blaw_1 : CSs :=
    (.cons (.set 8 (.tup (.cons (.cst (.str "times")) (.cons (.cst (.int 1)) (.cons (.nm 8) .nil)))))
    .nil)
def Blaw_2 : CSs :=
    (.cons (.ifs (.cmp .isn (.call 9 (.cons (.nm 12) (.cons (.nm 6) (.cons (.nm 4) (.cons (.nm 5) .nil))))) (.cst (.bool true))) (.cons (.ret (.cst (.bool false)))
    .nil) .nil)
    (.cons (.set 13 (.lst (.cons (.cst .none) (.cons (.prim .lst (.cons (.nm 12) .nil)) (.cons (.sl (.nm 12) (.cst .none) (.cst (.int 1))) (.cons (.bin .add (.tup (.cons (.cst (.str "other")) .nil)) (.sl (.nm 12) (.cst (.int 1)) (.cst .none))) (.cons (.bin .add (.nm 12) (.tup (.cons (.cst (.int 1)) .nil))) .nil)))))))
    (.cons (.ifs (.cmp .eq (.idx (.nm 12) (.cst (.int 0))) (.cst (.str "on"))) (.cons (.set 13 (.bin .add (.nm 13) (.lst (.cons (.tup (.cons (.cst (.str "on")) (.cons (.cst (.str "zoo")) (.cons (.idx (.nm 12) (.cst (.int 2))) .nil)))) (.cons (.tup (.cons (.cst (.str "on")) (.cons (.idx (.nm 12) (.cst (.int 1))) (.cons (.bin .add (.idx (.nm 12) (.cst (.int 2))) (.tup (.cons (.tup (.cons (.cst (.int 9)) (.cons (.cst (.int 9)) (.cons (.cst (.int 0)) .nil)))) .nil))) .nil)))) (.cons (.tup (.cons (.cst (.str "on")) (.cons (.idx (.nm 12) (.cst (.int 1))) (.cons (.prim .lst (.cons (.idx (.nm 12) (.cst (.int 2))) .nil)) .nil)))) (.cons (.tup (.cons (.cst (.str "on")) (.cons (.cst (.int 1)) (.cons (.idx (.nm 12) (.cst (.int 2))) .nil)))) .nil)))))))
    .nil) .nil)
    (.cons (.ifs (.cmp .gt (.prim .len (.cons (.comp (.nm 18) (.nm 18) (.seq (.nm 13)) (.cmp .isn (.call 9 (.cons (.nm 18) (.cons (.nm 6) (.cons (.nm 4) (.cons (.nm 5) .nil))))) (.cst (.bool false)))) .nil)) (.cst (.int 0))) (.cons (.ret (.cst (.bool false)))
    .nil) .nil)
    .nil))))
def Blaw_3 : CSs :=
    (.cons (.set 3 (.call 19 (.cons (.stn 1) (.cons (.cst (.bool false)) .nil))))
    (.cons (.par [(4, false), (5, false), (6, false)] (.cons (.comp (.nm 11) (.tp [11, 12]) (.seq (.idx (.nm 3) (.cst (.int 4)))) (.cst (.bool true))) (.cons (.comp (.nm 11) (.tp [11, 12]) (.seq (.idx (.nm 3) (.cst (.int 2)))) (.cst (.bool true))) (.cons (.prim .dct (.cons (.prim .lst (.cons (.idx (.nm 3) (.cst (.int 3))) .nil)) .nil)) .nil))))
    (.cons (.ifs (.or (.cmp .isn (.call 6 (.cons (.nm 3) .nil)) (.cst (.bool true))) (.or (.cmp .ne (.prim .lst (.cons (.call 11 (.cons (.nm 3) .nil)) .nil)) (.nm 4)) (.cmp .isn (.call 10 (.cons (.nm 3) (.cons (.idx (.nm 3) (.cst (.int 5))) .nil))) (.cst (.bool true))))) (.cons (.ret (.cst (.bool false)))
    .nil) .nil)
    (.cons (.set 7 (.call 18 (.cons (.stn 1) (.cons (.nm 4) (.cons (.nm 5) (.cons (.cst (.int 3)) .nil))))))
    (.cons (.ifs (.or (.cmp .isn (.call 3 (.cons (.nm 7) (.cons (.nm 4) (.cons (.nm 5) (.cons (.cst (.int 0)) .nil))))) (.cst (.bool true))) (.cmp .gt (.prim .len (.cons (.comp (.nm 18) (.nm 18) (.seq (.call 23 (.cons (.nm 7) .nil))) (.cmp .isn (.call 3 (.cons (.nm 18) (.cons (.nm 4) (.cons (.nm 5) (.cons (.cst (.int 0)) .nil))))) (.cst (.bool false)))) .nil)) (.cst (.int 0)))) (.cons (.ret (.cst (.bool false)))
    .nil) .nil)
    (.cons (.ifs (.or (.cmp .isn (.call 12 (.cons (.nm 3) (.cons (.nm 7) .nil))) (.cst (.bool true))) (.or (.cmp .isn (.call 12 (.cons (.nm 3) (.cons (.tup (.cons (.cst (.str "row")) (.cons (.tup (.cons (.nm 7) (.cons (.tup (.cons (.cst (.str "call")) (.cons (.cst (.str "zoo")) .nil))) .nil))) .nil))) .nil))) (.cst (.bool false))) (.cmp .isn (.call 12 (.cons (.nm 3) (.cons (.tup (.cons (.cst (.str "times")) (.cons (.cst (.int 2)) (.cons (.tup (.cons (.cst (.str "only")) (.cons (.cst (.str "zoo")) (.cons (.nm 7) .nil)))) .nil)))) .nil))) (.cst (.bool false))))) (.cons (.ret (.cst (.bool false)))
    .nil) .nil)
    (.cons (.ifs (.or (.cmp .ne (.call 13 (.cons (.nm 3) (.cons (.nm 7) .nil))) (.call 21 (.cons (.nm 3) (.cons (.nm 7) .nil)))) (.or (.cmp .ne (.call 14 (.cons (.nm 3) (.cons (.nm 7) .nil))) (.call 22 (.cons (.nm 3) (.cons (.nm 7) .nil)))) (.not (.call 20 (.cons (.nm 7) (.cons (.nm 4) (.cons (.nm 5) .nil))))))) (.cons (.ret (.cst (.bool false)))
    .nil) .nil)
    (.cons (.set 8 (.tup (.cons (.cst (.str "left")) .nil)))
    (.cons (.fors (.nm 9) (.rng (.cst (.int 6))) Blaw_1 [9])
    (.cons (.ifs (.or (.cmp .isn (.call 3 (.cons (.nm 8) (.cons (.nm 4) (.cons (.nm 5) (.cons (.cst (.int 0)) .nil))))) (.cst (.bool true))) (.or (.cmp .isn (.call 3 (.cons (.nm 8) (.cons (.nm 4) (.cons (.nm 5) (.cons (.cst (.int 1)) .nil))))) (.cst (.bool false))) (.cmp .isn (.call 3 (.cons (.tup (.cons (.cst (.str "times")) (.cons (.cst (.int 1)) (.cons (.nm 8) .nil)))) (.cons (.nm 4) (.cons (.nm 5) (.cons (.cst (.int 0)) .nil))))) (.cst (.bool false))))) (.cons (.ret (.cst (.bool false)))
    .nil) .nil)
    (.cons (.set 10 (.tup (.cons (.cst (.str "row")) (.cons (.tup (.cons (.tup (.cons (.cst (.str "left")) .nil)) (.cons (.tup (.cons (.cst (.str "row")) (.cons (.tup (.cons (.tup (.cons (.cst (.str "left")) .nil)) (.cons (.tup (.cons (.cst (.str "row")) (.cons (.tup (.cons (.tup (.cons (.cst (.str "left")) .nil)) (.cons (.tup (.cons (.cst (.str "right")) .nil)) .nil))) .nil))) .nil))) .nil))) .nil))) .nil))))
    (.cons (.ifs (.or (.cmp .isn (.call 3 (.cons (.nm 10) (.cons (.nm 4) (.cons (.nm 5) (.cons (.cst (.int 4)) .nil))))) (.cst (.bool true))) (.cmp .isn (.call 3 (.cons (.nm 10) (.cons (.nm 4) (.cons (.nm 5) (.cons (.cst (.int 5)) .nil))))) (.cst (.bool false)))) (.cons (.ret (.cst (.bool false)))
    .nil) .nil)
    (.cons (.ifs (.cmp .isn (.call 3 (.cons (.tup (.cons (.cst (.str "times")) (.cons (.cst (.int 1)) (.cons (.tup (.cons (.cst (.str "row")) (.cons (.tup (.cons (.tup (.cons (.cst (.str "left")) .nil)) (.cons (.tup (.cons (.cst (.str "left")) .nil)) .nil))) .nil))) .nil)))) (.cons (.nm 4) (.cons (.nm 5) (.cons (.cst (.int 5)) .nil))))) (.cst (.bool false))) (.cons (.ret (.cst (.bool false)))
    .nil) .nil)
    (.cons (.fors (.tp [11, 12]) (.seq (.idx (.nm 3) (.cst (.int 4)))) Blaw_2 [11, 12, 13, 18])
    (.cons (.set 14 (.idx (.nm 3) (.cst (.int 1))))
    (.cons (.set 15 (.lst (.cons (.tup (.cons (.nm 14) (.cons (.cst (.bool true)) .nil))) (.cons (.tup (.cons (.sl (.nm 14) (.cst .none) (.cst (.int 1))) (.cons (.cst (.bool true)) .nil))) (.cons (.tup (.cons (.slp (.nm 14) (-1)) (.cons (.cmp .lt (.prim .len (.cons (.nm 14) .nil)) (.cst (.int 2))) .nil))) (.cons (.tup (.cons (.tup .nil) (.cons (.cst (.bool false)) .nil))) (.cons (.tup (.cons (.bin .add (.nm 14) (.sl (.nm 14) (.cst .none) (.cst (.int 1)))) (.cons (.cst (.bool false)) .nil))) (.cons (.tup (.cons (.tup (.cons (.cst (.str "zoo")) .nil)) (.cons (.cst (.bool false)) .nil))) (.cons (.tup (.cons (.prim .lst (.cons (.nm 14) .nil)) (.cons (.cst (.bool false)) .nil))) (.cons (.tup (.cons (.cst .none) (.cons (.cst (.bool false)) .nil))) .nil))))))))))
    (.cons (.ifs (.cmp .gt (.prim .len (.cons (.comp (.nm 18) (.tp [18, 19]) (.seq (.nm 15)) (.cmp .ne (.call 8 (.cons (.nm 18) (.cons (.nm 14) .nil))) (.nm 19))) .nil)) (.cst (.int 0))) (.cons (.ret (.cst (.bool false)))
    .nil) .nil)
    (.cons (.set 16 (.idx (.nm 3) (.cst (.int 5))))
    (.cons (.set 13 (.lst (.cons (.sl (.nm 16) (.cst .none) (.neg (.cst (.int 1)))) (.cons (.bin .add (.nm 16) (.tup (.cons (.tup (.cons (.cst (.int 9)) (.cons (.cst (.int 9)) (.cons (.cst (.int 0)) .nil)))) .nil))) (.cons (.prim .lst (.cons (.nm 16) .nil)) (.cons (.bin .mul (.tup (.cons (.idx (.nm 16) (.cst (.int 0))) .nil)) (.prim .len (.cons (.nm 16) .nil))) (.cons (.bin .add (.sl (.nm 16) (.cst .none) (.neg (.cst (.int 1)))) (.tup (.cons (.tup (.cons (.cst (.int 9)) (.cons (.cst (.int 9)) (.cons (.cst (.int 4)) .nil)))) .nil))) (.cons (.bin .add (.sl (.nm 16) (.cst .none) (.neg (.cst (.int 1)))) (.tup (.cons (.tup (.cons (.cst (.int 9)) (.cons (.cst (.bool true)) (.cons (.cst (.int 0)) .nil)))) .nil))) (.cons (.bin .add (.sl (.nm 16) (.cst .none) (.neg (.cst (.int 1)))) (.tup (.cons (.lst (.cons (.cst (.int 9)) (.cons (.cst (.int 9)) (.cons (.cst (.int 0)) .nil)))) .nil))) (.cons (.cst .none) .nil))))))))))
    (.cons (.ifs (.or (.cmp .gt (.prim .len (.cons (.comp (.nm 18) (.nm 18) (.seq (.nm 13)) (.cmp .isn (.call 10 (.cons (.nm 3) (.cons (.nm 18) .nil))) (.cst (.bool false)))) .nil)) (.cst (.int 0))) (.cmp .isn (.call 10 (.cons (.nm 3) (.cons (.bin .add (.sl (.nm 16) (.cst .none) (.neg (.cst (.int 1)))) (.tup (.cons (.tup (.cons (.cst (.int 500)) (.cons (.neg (.cst (.int 500))) (.cons (.cst (.int 3)) .nil)))) .nil))) .nil))) (.cst (.bool true)))) (.cons (.ret (.cst (.bool false)))
    .nil) .nil)
    (.cons (.set 17 (.lst (.cons (.cst .none) (.cons (.prim .lst (.cons (.nm 3) .nil)) (.cons (.sl (.nm 3) (.cst .none) (.neg (.cst (.int 1)))) (.cons (.bin .add (.tup (.cons (.cst (.str "other")) .nil)) (.sl (.nm 3) (.cst (.int 1)) (.cst .none))) (.cons (.bin .add (.sl (.nm 3) (.cst .none) (.cst (.int 5))) (.tup (.cons (.sl (.nm 16) (.cst .none) (.neg (.cst (.int 1)))) .nil))) (.cons (.bin .add (.bin .add (.sl (.nm 3) (.cst .none) (.cst (.int 1))) (.tup (.cons (.bin .add (.idx (.nm 3) (.cst (.int 1))) (.sl (.idx (.nm 3) (.cst (.int 1))) (.cst .none) (.cst (.int 1)))) .nil))) (.sl (.nm 3) (.cst (.int 2)) (.cst .none))) .nil))))))))
    (.cons (.set 17 (.bin .add (.nm 17) (.lst (.cons (.bin .add (.bin .add (.sl (.nm 3) (.cst .none) (.cst (.int 1))) (.tup (.cons (.tup .nil) .nil))) (.sl (.nm 3) (.cst (.int 2)) (.cst .none))) (.cons (.bin .add (.bin .add (.sl (.nm 3) (.cst .none) (.cst (.int 2))) (.tup (.cons (.tup (.cons (.tup (.cons (.cst (.str "men")) (.cons (.tup (.cons (.cst (.str "zoo")) .nil)) .nil))) .nil)) .nil))) (.sl (.nm 3) (.cst (.int 3)) (.cst .none))) (.cons (.bin .add (.sl (.nm 3) (.cst .none) (.cst (.int 4))) (.tup (.cons (.bin .add (.idx (.nm 3) (.cst (.int 4))) (.sl (.idx (.nm 3) (.cst (.int 4))) (.cst .none) (.cst (.int 1)))) (.cons (.nm 16) .nil)))) .nil))))))
    (.cons (.set 17 (.bin .add (.nm 17) (.lst (.cons (.bin .add (.bin .add (.sl (.nm 3) (.cst .none) (.cst (.int 3))) (.tup (.cons (.bin .add (.tup (.cons (.tup (.cons (.cst (.str "single")) (.cons (.tup .nil) .nil))) .nil)) (.sl (.idx (.nm 3) (.cst (.int 3))) (.cst (.int 1)) (.cst .none))) .nil))) (.sl (.nm 3) (.cst (.int 4)) (.cst .none))) (.cons (.bin .add (.sl (.nm 3) (.cst .none) (.cst (.int 4))) (.tup (.cons (.tup (.cons (.tup (.cons (.cst (.str "zoo")) (.cons (.tup (.cons (.cst (.str "as")) (.cons (.tup (.cons (.cst (.str "call")) (.cons (.cst (.str "zoo")) .nil))) .nil))) .nil))) .nil)) (.cons (.nm 16) .nil)))) .nil)))))
    (.cons (.set 17 (.bin .add (.nm 17) (.lst (.cons (.bin .add (.sl (.nm 3) (.cst .none) (.cst (.int 4))) (.tup (.cons (.tup (.cons (.tup (.cons (.cst (.str "zip")) (.cons (.tup (.cons (.cst (.str "as")) (.cons (.tup (.cons (.cst (.str "call")) (.cons (.cst (.str "zap")) .nil))) .nil))) .nil))) (.cons (.tup (.cons (.cst (.str "zap")) (.cons (.tup (.cons (.cst (.str "as")) (.cons (.tup (.cons (.cst (.str "left")) .nil)) .nil))) .nil))) .nil))) (.cons (.nm 16) .nil)))) (.cons (.bin .add (.sl (.nm 3) (.cst .none) (.cst (.int 5))) (.tup (.cons (.bin .add (.sl (.nm 16) (.cst .none) (.neg (.cst (.int 1)))) (.tup (.cons (.tup (.cons (.cst (.int 21)) (.cons (.cst (.int 0)) (.cons (.cst (.int 0)) .nil)))) .nil))) .nil))) .nil)))))
    (.cons (.set 17 (.bin .add (.nm 17) (.lst (.cons (.bin .add (.sl (.nm 3) (.cst .none) (.cst (.int 4))) (.tup (.cons (.lst .nil) (.cons (.nm 16) .nil)))) (.cons (.bin .add (.bin .add (.sl (.nm 3) (.cst .none) (.cst (.int 2))) (.tup (.cons (.tup (.cons (.tup (.cons (.cst (.str "a")) (.cons (.tup (.cons (.cst (.str "a")) .nil)) .nil))) .nil)) .nil))) (.sl (.nm 3) (.cst (.int 3)) (.cst .none))) .nil)))))
    (.cons (.ifs (.cmp .gt (.prim .len (.cons (.comp (.nm 18) (.nm 18) (.seq (.nm 17)) (.cmp .isn (.call 6 (.cons (.nm 18) .nil)) (.cst (.bool false)))) .nil)) (.cst (.int 0))) (.cons (.ret (.cst (.bool false)))
    .nil) .nil)
    .nil))))))))))))))))))))))))))
def lawN : List Str := ["script", "state", "turn", "dance", "calls", "groups", "shapes", "program", "deep", "step", "rows", "name", "told", "bent", "first", "asked", "start", "odd", "value", "due"]
def lawB : CSs :=
    (.cons (.fors (.nm 2) (.rng (.cst (.int 4))) Blaw_3 [2, 3, 4, 5, 6, 7, 8, 9, 10, 11, 12, 13, 14, 15, 16, 17, 18, 19])
    (.cons (.ret (.cst (.bool true)))
    .nil))
def cs : List (Str × PyData) := [("MOST_PLACE", (.int 20)), ("MOST_NAME", (.int 8)), ("WORDS", (.tuple [(.str "dancer"), (.str "group"), (.str "shape"), (.str "start"), (.str "call"), (.str "on"), (.str "as"), (.str "times"), (.str "only"), (.str "left"), (.str "right"), (.str "about"), (.str "step"), (.str "back"), (.str "north"), (.str "east"), (.str "south"), (.str "west")])), ("LETTERS", (.str "abcdefghijklmnopqrstuvwxyz")), ("MOST_DEEP", (.int 6)), ("MOST_ROW", (.int 12)), ("TURNS", (.tuple [(.str "left"), (.str "right"), (.str "about"), (.str "step"), (.str "back")])), ("MOST_DANCERS", (.int 8)), ("MOST_TOLD", (.int 20))]
end Pv
set_option Elab.async false
set_option linter.all false
set_option maxRecDepth 100000
set_option maxHeartbeats 4000000
namespace Pv
open PySem PySem.Spec L2
theorem sc_is_place : FnScope Fis_place.ns Fis_place.ps (defScope (top 2)) := ⟨rfl, rfl, rfl, by decide +kernel, rfl, by decide +kernel, by decide +kernel⟩
theorem mt_is_place : mtSs fns cs Fis_place.ns (defScope (top 2)) (match Fis_place.k with | .code b => b | .take => .nil) (defBody (top 2)) = true := by decide +kernel
theorem sc_are_places : FnScope Fare_places.ns Fare_places.ps (defScope (top 3)) := ⟨rfl, rfl, rfl, by decide +kernel, rfl, by decide +kernel, by decide +kernel⟩
theorem mt_are_places : mtSs fns cs Fare_places.ns (defScope (top 3)) (match Fare_places.k with | .code b => b | .take => .nil) (defBody (top 3)) = true := by decide +kernel
theorem sc_is_name : FnScope Fis_name.ns Fis_name.ps (defScope (top 8)) := ⟨rfl, rfl, rfl, by decide +kernel, rfl, by decide +kernel, by decide +kernel⟩
theorem mt_is_name : mtSs fns cs Fis_name.ns (defScope (top 8)) (match Fis_name.k with | .code b => b | .take => .nil) (defBody (top 8)) = true := by decide +kernel
theorem sc_is_program : FnScope Fis_program.ns Fis_program.ps (defScope (top 15)) := ⟨rfl, rfl, rfl, by decide +kernel, rfl, by decide +kernel, by decide +kernel⟩
theorem mt_is_program : mtSs fns cs Fis_program.ns (defScope (top 15)) (match Fis_program.k with | .code b => b | .take => .nil) (defBody (top 15)) = true := by decide +kernel
theorem sc_is_row : FnScope Fis_row.ns Fis_row.ps (defScope (top 16)) := ⟨rfl, rfl, rfl, by decide +kernel, rfl, by decide +kernel, by decide +kernel⟩
theorem mt_is_row : mtSs fns cs Fis_row.ns (defScope (top 16)) (match Fis_row.k with | .code b => b | .take => .nil) (defBody (top 16)) = true := by decide +kernel
theorem sc_is_single : FnScope Fis_single.ns Fis_single.ps (defScope (top 17)) := ⟨rfl, rfl, rfl, by decide +kernel, rfl, by decide +kernel, by decide +kernel⟩
theorem mt_is_single : mtSs fns cs Fis_single.ns (defScope (top 17)) (match Fis_single.k with | .code b => b | .take => .nil) (defBody (top 17)) = true := by decide +kernel
theorem sc_is_dance : FnScope Fis_dance.ns Fis_dance.ps (defScope (top 18)) := ⟨rfl, rfl, rfl, by decide +kernel, rfl, by decide +kernel, by decide +kernel⟩
theorem mt_is_dance : mtSs fns cs Fis_dance.ns (defScope (top 18)) (match Fis_dance.k with | .code b => b | .take => .nil) (defBody (top 18)) = true := by decide +kernel
theorem sc_are_tables : FnScope Fare_tables.ns Fare_tables.ps (defScope (top 19)) := ⟨rfl, rfl, rfl, by decide +kernel, rfl, by decide +kernel, by decide +kernel⟩
theorem mt_are_tables : mtSs fns cs Fare_tables.ns (defScope (top 19)) (match Fare_tables.k with | .code b => b | .take => .nil) (defBody (top 19)) = true := by decide +kernel
theorem sc_is_group : FnScope Fis_group.ns Fis_group.ps (defScope (top 20)) := ⟨rfl, rfl, rfl, by decide +kernel, rfl, by decide +kernel, by decide +kernel⟩
theorem mt_is_group : mtSs fns cs Fis_group.ns (defScope (top 20)) (match Fis_group.k with | .code b => b | .take => .nil) (defBody (top 20)) = true := by decide +kernel
theorem sc_is_call : FnScope Fis_call.ns Fis_call.ps (defScope (top 21)) := ⟨rfl, rfl, rfl, by decide +kernel, rfl, by decide +kernel, by decide +kernel⟩
theorem mt_is_call : mtSs fns cs Fis_call.ns (defScope (top 21)) (match Fis_call.k with | .code b => b | .take => .nil) (defBody (top 21)) = true := by decide +kernel
theorem sc_is_set : FnScope Fis_set.ns Fis_set.ps (defScope (top 22)) := ⟨rfl, rfl, rfl, by decide +kernel, rfl, by decide +kernel, by decide +kernel⟩
theorem mt_is_set : mtSs fns cs Fis_set.ns (defScope (top 22)) (match Fis_set.k with | .code b => b | .take => .nil) (defBody (top 22)) = true := by decide +kernel
theorem sc_names_of : FnScope Fnames_of.ns Fnames_of.ps (defScope (top 23)) := ⟨rfl, rfl, rfl, by decide +kernel, rfl, by decide +kernel, by decide +kernel⟩
theorem mt_names_of : mtSs fns cs Fnames_of.ns (defScope (top 23)) (match Fnames_of.k with | .code b => b | .take => .nil) (defBody (top 23)) = true := by decide +kernel
theorem sc_known : FnScope Fknown.ns Fknown.ps (defScope (top 25)) := ⟨rfl, rfl, rfl, by decide +kernel, rfl, by decide +kernel, by decide +kernel⟩
theorem mt_known : mtSs fns cs Fknown.ns (defScope (top 25)) (match Fknown.k with | .code b => b | .take => .nil) (defBody (top 25)) = true := by decide +kernel
theorem sc_count : FnScope Fcount.ns Fcount.ps (defScope (top 26)) := ⟨rfl, rfl, rfl, by decide +kernel, rfl, by decide +kernel, by decide +kernel⟩
theorem mt_count : mtSs fns cs Fcount.ns (defScope (top 26)) (match Fcount.k with | .code b => b | .take => .nil) (defBody (top 26)) = true := by decide +kernel
theorem sc_is_open : FnScope Fis_open.ns Fis_open.ps (defScope (top 27)) := ⟨rfl, rfl, rfl, by decide +kernel, rfl, by decide +kernel, by decide +kernel⟩
theorem mt_is_open : mtSs fns cs Fis_open.ns (defScope (top 27)) (match Fis_open.k with | .code b => b | .take => .nil) (defBody (top 27)) = true := by decide +kernel
theorem sc__law_pick : FnScope F_law_pick.ns F_law_pick.ps (defScope (top 31)) := ⟨rfl, rfl, rfl, by decide +kernel, rfl, by decide +kernel, by decide +kernel⟩
theorem mt__law_pick : mtSs fns cs F_law_pick.ns (defScope (top 31)) (match F_law_pick.k with | .code b => b | .take => .nil) (defBody (top 31)) = true := by decide +kernel
theorem sc__law_goals : FnScope F_law_goals.ns F_law_goals.ps (defScope (top 37)) := ⟨rfl, rfl, rfl, by decide +kernel, rfl, by decide +kernel, by decide +kernel⟩
theorem mt__law_goals : mtSs fns cs F_law_goals.ns (defScope (top 37)) (match F_law_goals.k with | .code b => b | .take => .nil) (defBody (top 37)) = true := by decide +kernel
theorem sc__law_program : FnScope F_law_program.ns F_law_program.ps (defScope (top 38)) := ⟨rfl, rfl, rfl, by decide +kernel, rfl, by decide +kernel, by decide +kernel⟩
theorem mt__law_program : mtSs fns cs F_law_program.ns (defScope (top 38)) (match F_law_program.k with | .code b => b | .take => .nil) (defBody (top 38)) = true := by decide +kernel
theorem sc__law_dance : FnScope F_law_dance.ns F_law_dance.ps (defScope (top 39)) := ⟨rfl, rfl, rfl, by decide +kernel, rfl, by decide +kernel, by decide +kernel⟩
theorem mt__law_dance : mtSs fns cs F_law_dance.ns (defScope (top 39)) (match F_law_dance.k with | .code b => b | .take => .nil) (defBody (top 39)) = true := by decide +kernel
theorem sc__law_known : FnScope F_law_known.ns F_law_known.ps (defScope (top 40)) := ⟨rfl, rfl, rfl, by decide +kernel, rfl, by decide +kernel, by decide +kernel⟩
theorem mt__law_known : mtSs fns cs F_law_known.ns (defScope (top 40)) (match F_law_known.k with | .code b => b | .take => .nil) (defBody (top 40)) = true := by decide +kernel
theorem sc__law_count : FnScope F_law_count.ns F_law_count.ps (defScope (top 41)) := ⟨rfl, rfl, rfl, by decide +kernel, rfl, by decide +kernel, by decide +kernel⟩
theorem mt__law_count : mtSs fns cs F_law_count.ns (defScope (top 41)) (match F_law_count.k with | .code b => b | .take => .nil) (defBody (top 41)) = true := by decide +kernel
theorem sc__law_open : FnScope F_law_open.ns F_law_open.ps (defScope (top 42)) := ⟨rfl, rfl, rfl, by decide +kernel, rfl, by decide +kernel, by decide +kernel⟩
theorem mt__law_open : mtSs fns cs F_law_open.ns (defScope (top 42)) (match F_law_open.k with | .code b => b | .take => .nil) (defBody (top 42)) = true := by decide +kernel
theorem sc__law_bent : FnScope F_law_bent.ns F_law_bent.ps (defScope (top 43)) := ⟨rfl, rfl, rfl, by decide +kernel, rfl, by decide +kernel, by decide +kernel⟩
theorem mt__law_bent : mtSs fns cs F_law_bent.ns (defScope (top 43)) (match F_law_bent.k with | .code b => b | .take => .nil) (defBody (top 43)) = true := by decide +kernel
theorem sc_law : FnScope lawN ["script"] (defScope (top 44)) := ⟨rfl, rfl, rfl, by decide +kernel, rfl, by decide +kernel, by decide +kernel⟩
theorem mt_law : mtSs fns cs lawN (defScope (top 44)) lawB (defBody (top 44)).tail = true := by decide +kernel
theorem m1_law : mLaw1 lawN (defScope (top 44)) ((defBody (top 44)).headD (.Pass ⟨0, 0, 0, 0⟩)) = true := by decide +kernel
theorem mt_state : mState cs ["script", "cells", "cell"] (defScope (top 29)) (defBody (top 29)) = true := by decide +kernel
theorem sc_state : FnScope ["script", "cells", "cell"] ["script"] (defScope (top 29)) := ⟨rfl, rfl, rfl, by decide +kernel, rfl, by decide +kernel, by decide +kernel⟩
end Pv
set_option Elab.async false
set_option linter.all false
set_option maxRecDepth 100000
set_option maxHeartbeats 0
namespace Pv
open PySem PySem.Spec L2
def dd (x : Str) (i : Nat) : He.DefD := ⟨(x, none), x, x, defArgs (top i), defBody (top i), defScope (top i), [], []⟩
def hdFn_0 : List He.DefD := [dd "is_place" 2, dd "are_places" 3, dd "is_name" 8, dd "is_program" 15, dd "is_row" 16, dd "is_single" 17, dd "is_dance" 18, dd "are_tables" 19, dd "is_group" 20, dd "is_call" 21, dd "is_set" 22, dd "names_of" 23, dd "known" 25, dd "count" 26, dd "is_open" 27, dd "_law_take" 30, dd "_law_pick" 31, dd "_law_goals" 37, dd "_law_program" 38, dd "_law_dance" 39, dd "_law_known" 40, dd "_law_count" 41, dd "_law_open" 42, dd "_law_bent" 43, dd "_law_state" 29]
def hdFn_1 : List He.DefD := [dd "law" 44]
def hdFn : List He.DefD := hdFn_0 ++ hdFn_1
def hdFg_0 : List He.Fa := [.glo "is_place", .glo "are_places", .glo "is_name", .glo "is_program", .glo "is_row", .glo "is_single", .glo "is_dance", .glo "are_tables", .glo "is_group", .glo "is_call", .glo "is_set", .glo "names_of", .glo "known", .glo "count", .glo "is_open", .glo "_law_take", .glo "_law_pick", .glo "_law_goals", .glo "_law_program", .glo "_law_dance", .glo "_law_known", .glo "_law_count", .glo "_law_open", .glo "_law_bent", .glo "_law_state"]
def hdFg_1 : List He.Fa := [.glo "law"]
def hdFg : List He.Fa := hdFg_0 ++ hdFg_1
def hdFa : List He.Fa := hdFg ++ (["len", "range", "min", "max", "abs", "sorted", "tuple", "list", "int", "isinstance", "set", "all", "any", "sum", "bool", "str", "dict"] : List Str).map He.Fa.free
def hdLo_0 : List Str := ["MOST_PLACE", "is_place", "are_places", "WORDS", "LETTERS", "MOST_NAME", "is_name", "MOST_DANCERS", "MOST_TOLD", "MOST_DEEP", "MOST_ROW", "TURNS", "is_program", "is_row", "is_single", "is_dance", "are_tables", "is_group", "is_call", "is_set", "names_of", "known", "count", "is_open", "_law_state"]
def hdLo_1 : List Str := ["_law_take", "_law_pick", "_law_fr", "_law_add", "_law_mul", "_law_sub", "_law_sum", "_law_goals", "_law_program", "_law_dance", "_law_known", "_law_count", "_law_open", "_law_bent"]
def hdLo : List Str := hdLo_0 ++ hdLo_1
def hdTf : List He.Defn := []
abbrev hdR : PySem.W.OpenRow := PySem.W.OpenLaw.row PySem.Challenge.rw_callswright_k03_whole_dances_of_any_kind
abbrev hk : PySem.W.Hook := He.hookX 4 hdFa hdFn [] hdTf (exC cs)
def hdOb (s : PySem.W.SharedT) : He.AlX := He.obsX 4 hdFa hdFn [] hdTf (exC cs) (HandSHeadRun.getT s)
theorem ob_eq (s : PySem.W.SharedT) : hdOb s = hk.obs s.abs := He.obsX_eq (HandSHeadRun.getT_eq s)
theorem hdRun (w : World) : HandSHeadRun.RunEq hdR (PySem.W.view hdR.prog [44]) hk hdOb 6000 hdLo w := by
  intro os
  kernel_rfl
end Pv
set_option Elab.async false
set_option linter.all false
set_option maxRecDepth 100000
set_option maxHeartbeats 0
namespace Pv
open PySem PySem.Spec L2
section
variable {w : World} {K : PySem.W.Frag} {h : Heap} {mg : Str → Option Value}
def prog0 : Program := PySem.Challenge.rw_callswright_k03_whole_dances_of_any_kind.prog
def hdT (K : PySem.W.Frag) : List (Addr × Str) := []
def hdP (K : PySem.W.Frag) : Px := ⟨hdT K, K, fun _ => 0, fun _ => Str.empty, none, fun _ => none, fun _ => none⟩
theorem memFn {d : He.DefD} {i : Nat} (e : hdFn[i]? = some d) : d ∈ hdFn := List.mem_of_getElem? e
theorem memFa {f : He.Fa} {i : Nat} (e : hdFa[i]? = some f) : f ∈ hdFa := List.mem_of_getElem? e
theorem hd_md (X : K.In h) (G : h.Ns mainGlobals mg) (c : He.SaysX hdFa hdFn [] hdTf (exC cs) w h K) : Md (hdP K) K mg cs := by
  exact md_of rfl X G c.more fun b m => He.free_ok X G (x := b) (He.SaysD.facts (He.SaysT.d c.t) (List.mem_append_right _ (List.mem_map.mpr ⟨b, m, rfl⟩)))

theorem fd_is_place (c : He.SaysX hdFa hdFn [] hdTf (exC cs) w h K) : ∃ fd, FnP K "is_place" (top 2) (He.ga K "is_place") fd ∧ Binds K fd Fis_place.ps [] ∧ ∀ (s : Shared) (us : List Value), us.length = 1 → BindsTo s fd ⟨us, []⟩ ((Fis_place.ps : List Str).zip us) := by
  obtain ⟨fd, F⟩ := He.SaysD.defs (He.SaysT.d c.t) (memFn (i := 0) (d := dd "is_place" 2) rfl)
  have hb := fun (kV doc pm : Value) (an : Option Addr) (cdv ct : Value) (us : List Value) (hl : us.length = (Fis_place.ps : List Str).length) => (match us, hl with | [_], _ => rfl : bindArgs (PySem.W.fnOf "is_place" "is_place" (defArgs (top 2)) (defBody (top 2)) (defScope (top 2)) .none kV doc pm an cdv ct) ⟨us, []⟩ = pure ((Fis_place.ps : List Str).zip us))
  exact ⟨fd, F, FunD.bindsN F hb, fun s us hl => FunD.bindsA F hb s us hl⟩
theorem gl_is_place (X : K.In h) (G : h.Ns mainGlobals mg) (c : He.SaysX hdFa hdFn [] hdTf (exC cs) w h K) : mg "is_place" = some (.ref (He.ga K "is_place")) := He.glo_ok X G (He.SaysD.facts (He.SaysT.d c.t) (memFa (i := 0) rfl))
theorem fd_are_places (c : He.SaysX hdFa hdFn [] hdTf (exC cs) w h K) : ∃ fd, FnP K "are_places" (top 3) (He.ga K "are_places") fd ∧ Binds K fd Fare_places.ps [] ∧ ∀ (s : Shared) (us : List Value), us.length = 1 → BindsTo s fd ⟨us, []⟩ ((Fare_places.ps : List Str).zip us) := by
  obtain ⟨fd, F⟩ := He.SaysD.defs (He.SaysT.d c.t) (memFn (i := 1) (d := dd "are_places" 3) rfl)
  have hb := fun (kV doc pm : Value) (an : Option Addr) (cdv ct : Value) (us : List Value) (hl : us.length = (Fare_places.ps : List Str).length) => (match us, hl with | [_], _ => rfl : bindArgs (PySem.W.fnOf "are_places" "are_places" (defArgs (top 3)) (defBody (top 3)) (defScope (top 3)) .none kV doc pm an cdv ct) ⟨us, []⟩ = pure ((Fare_places.ps : List Str).zip us))
  exact ⟨fd, F, FunD.bindsN F hb, fun s us hl => FunD.bindsA F hb s us hl⟩
theorem gl_are_places (X : K.In h) (G : h.Ns mainGlobals mg) (c : He.SaysX hdFa hdFn [] hdTf (exC cs) w h K) : mg "are_places" = some (.ref (He.ga K "are_places")) := He.glo_ok X G (He.SaysD.facts (He.SaysT.d c.t) (memFa (i := 1) rfl))
theorem fd_is_name (c : He.SaysX hdFa hdFn [] hdTf (exC cs) w h K) : ∃ fd, FnP K "is_name" (top 8) (He.ga K "is_name") fd ∧ Binds K fd Fis_name.ps [] ∧ ∀ (s : Shared) (us : List Value), us.length = 1 → BindsTo s fd ⟨us, []⟩ ((Fis_name.ps : List Str).zip us) := by
  obtain ⟨fd, F⟩ := He.SaysD.defs (He.SaysT.d c.t) (memFn (i := 2) (d := dd "is_name" 8) rfl)
  have hb := fun (kV doc pm : Value) (an : Option Addr) (cdv ct : Value) (us : List Value) (hl : us.length = (Fis_name.ps : List Str).length) => (match us, hl with | [_], _ => rfl : bindArgs (PySem.W.fnOf "is_name" "is_name" (defArgs (top 8)) (defBody (top 8)) (defScope (top 8)) .none kV doc pm an cdv ct) ⟨us, []⟩ = pure ((Fis_name.ps : List Str).zip us))
  exact ⟨fd, F, FunD.bindsN F hb, fun s us hl => FunD.bindsA F hb s us hl⟩
theorem gl_is_name (X : K.In h) (G : h.Ns mainGlobals mg) (c : He.SaysX hdFa hdFn [] hdTf (exC cs) w h K) : mg "is_name" = some (.ref (He.ga K "is_name")) := He.glo_ok X G (He.SaysD.facts (He.SaysT.d c.t) (memFa (i := 2) rfl))
theorem fd_is_program (c : He.SaysX hdFa hdFn [] hdTf (exC cs) w h K) : ∃ fd, FnP K "is_program" (top 15) (He.ga K "is_program") fd ∧ Binds K fd Fis_program.ps [] ∧ ∀ (s : Shared) (us : List Value), us.length = 4 → BindsTo s fd ⟨us, []⟩ ((Fis_program.ps : List Str).zip us) := by
  obtain ⟨fd, F⟩ := He.SaysD.defs (He.SaysT.d c.t) (memFn (i := 3) (d := dd "is_program" 15) rfl)
  have hb := fun (kV doc pm : Value) (an : Option Addr) (cdv ct : Value) (us : List Value) (hl : us.length = (Fis_program.ps : List Str).length) => (match us, hl with | [_, _, _, _], _ => rfl : bindArgs (PySem.W.fnOf "is_program" "is_program" (defArgs (top 15)) (defBody (top 15)) (defScope (top 15)) .none kV doc pm an cdv ct) ⟨us, []⟩ = pure ((Fis_program.ps : List Str).zip us))
  exact ⟨fd, F, FunD.bindsN F hb, fun s us hl => FunD.bindsA F hb s us hl⟩
theorem gl_is_program (X : K.In h) (G : h.Ns mainGlobals mg) (c : He.SaysX hdFa hdFn [] hdTf (exC cs) w h K) : mg "is_program" = some (.ref (He.ga K "is_program")) := He.glo_ok X G (He.SaysD.facts (He.SaysT.d c.t) (memFa (i := 3) rfl))
theorem fd_is_row (c : He.SaysX hdFa hdFn [] hdTf (exC cs) w h K) : ∃ fd, FnP K "is_row" (top 16) (He.ga K "is_row") fd ∧ Binds K fd Fis_row.ps [] ∧ ∀ (s : Shared) (us : List Value), us.length = 4 → BindsTo s fd ⟨us, []⟩ ((Fis_row.ps : List Str).zip us) := by
  obtain ⟨fd, F⟩ := He.SaysD.defs (He.SaysT.d c.t) (memFn (i := 4) (d := dd "is_row" 16) rfl)
  have hb := fun (kV doc pm : Value) (an : Option Addr) (cdv ct : Value) (us : List Value) (hl : us.length = (Fis_row.ps : List Str).length) => (match us, hl with | [_, _, _, _], _ => rfl : bindArgs (PySem.W.fnOf "is_row" "is_row" (defArgs (top 16)) (defBody (top 16)) (defScope (top 16)) .none kV doc pm an cdv ct) ⟨us, []⟩ = pure ((Fis_row.ps : List Str).zip us))
  exact ⟨fd, F, FunD.bindsN F hb, fun s us hl => FunD.bindsA F hb s us hl⟩
theorem gl_is_row (X : K.In h) (G : h.Ns mainGlobals mg) (c : He.SaysX hdFa hdFn [] hdTf (exC cs) w h K) : mg "is_row" = some (.ref (He.ga K "is_row")) := He.glo_ok X G (He.SaysD.facts (He.SaysT.d c.t) (memFa (i := 4) rfl))
theorem fd_is_single (c : He.SaysX hdFa hdFn [] hdTf (exC cs) w h K) : ∃ fd, FnP K "is_single" (top 17) (He.ga K "is_single") fd ∧ Binds K fd Fis_single.ps [] ∧ ∀ (s : Shared) (us : List Value), us.length = 4 → BindsTo s fd ⟨us, []⟩ ((Fis_single.ps : List Str).zip us) := by
  obtain ⟨fd, F⟩ := He.SaysD.defs (He.SaysT.d c.t) (memFn (i := 5) (d := dd "is_single" 17) rfl)
  have hb := fun (kV doc pm : Value) (an : Option Addr) (cdv ct : Value) (us : List Value) (hl : us.length = (Fis_single.ps : List Str).length) => (match us, hl with | [_, _, _, _], _ => rfl : bindArgs (PySem.W.fnOf "is_single" "is_single" (defArgs (top 17)) (defBody (top 17)) (defScope (top 17)) .none kV doc pm an cdv ct) ⟨us, []⟩ = pure ((Fis_single.ps : List Str).zip us))
  exact ⟨fd, F, FunD.bindsN F hb, fun s us hl => FunD.bindsA F hb s us hl⟩
theorem gl_is_single (X : K.In h) (G : h.Ns mainGlobals mg) (c : He.SaysX hdFa hdFn [] hdTf (exC cs) w h K) : mg "is_single" = some (.ref (He.ga K "is_single")) := He.glo_ok X G (He.SaysD.facts (He.SaysT.d c.t) (memFa (i := 5) rfl))
theorem fd_is_dance (c : He.SaysX hdFa hdFn [] hdTf (exC cs) w h K) : ∃ fd, FnP K "is_dance" (top 18) (He.ga K "is_dance") fd ∧ Binds K fd Fis_dance.ps [] ∧ ∀ (s : Shared) (us : List Value), us.length = 1 → BindsTo s fd ⟨us, []⟩ ((Fis_dance.ps : List Str).zip us) := by
  obtain ⟨fd, F⟩ := He.SaysD.defs (He.SaysT.d c.t) (memFn (i := 6) (d := dd "is_dance" 18) rfl)
  have hb := fun (kV doc pm : Value) (an : Option Addr) (cdv ct : Value) (us : List Value) (hl : us.length = (Fis_dance.ps : List Str).length) => (match us, hl with | [_], _ => rfl : bindArgs (PySem.W.fnOf "is_dance" "is_dance" (defArgs (top 18)) (defBody (top 18)) (defScope (top 18)) .none kV doc pm an cdv ct) ⟨us, []⟩ = pure ((Fis_dance.ps : List Str).zip us))
  exact ⟨fd, F, FunD.bindsN F hb, fun s us hl => FunD.bindsA F hb s us hl⟩
theorem gl_is_dance (X : K.In h) (G : h.Ns mainGlobals mg) (c : He.SaysX hdFa hdFn [] hdTf (exC cs) w h K) : mg "is_dance" = some (.ref (He.ga K "is_dance")) := He.glo_ok X G (He.SaysD.facts (He.SaysT.d c.t) (memFa (i := 6) rfl))
theorem fd_are_tables (c : He.SaysX hdFa hdFn [] hdTf (exC cs) w h K) : ∃ fd, FnP K "are_tables" (top 19) (He.ga K "are_tables") fd ∧ Binds K fd Fare_tables.ps [] ∧ ∀ (s : Shared) (us : List Value), us.length = 1 → BindsTo s fd ⟨us, []⟩ ((Fare_tables.ps : List Str).zip us) := by
  obtain ⟨fd, F⟩ := He.SaysD.defs (He.SaysT.d c.t) (memFn (i := 7) (d := dd "are_tables" 19) rfl)
  have hb := fun (kV doc pm : Value) (an : Option Addr) (cdv ct : Value) (us : List Value) (hl : us.length = (Fare_tables.ps : List Str).length) => (match us, hl with | [_], _ => rfl : bindArgs (PySem.W.fnOf "are_tables" "are_tables" (defArgs (top 19)) (defBody (top 19)) (defScope (top 19)) .none kV doc pm an cdv ct) ⟨us, []⟩ = pure ((Fare_tables.ps : List Str).zip us))
  exact ⟨fd, F, FunD.bindsN F hb, fun s us hl => FunD.bindsA F hb s us hl⟩
theorem gl_are_tables (X : K.In h) (G : h.Ns mainGlobals mg) (c : He.SaysX hdFa hdFn [] hdTf (exC cs) w h K) : mg "are_tables" = some (.ref (He.ga K "are_tables")) := He.glo_ok X G (He.SaysD.facts (He.SaysT.d c.t) (memFa (i := 7) rfl))
theorem fd_is_group (c : He.SaysX hdFa hdFn [] hdTf (exC cs) w h K) : ∃ fd, FnP K "is_group" (top 20) (He.ga K "is_group") fd ∧ Binds K fd Fis_group.ps [] ∧ ∀ (s : Shared) (us : List Value), us.length = 2 → BindsTo s fd ⟨us, []⟩ ((Fis_group.ps : List Str).zip us) := by
  obtain ⟨fd, F⟩ := He.SaysD.defs (He.SaysT.d c.t) (memFn (i := 8) (d := dd "is_group" 20) rfl)
  have hb := fun (kV doc pm : Value) (an : Option Addr) (cdv ct : Value) (us : List Value) (hl : us.length = (Fis_group.ps : List Str).length) => (match us, hl with | [_, _], _ => rfl : bindArgs (PySem.W.fnOf "is_group" "is_group" (defArgs (top 20)) (defBody (top 20)) (defScope (top 20)) .none kV doc pm an cdv ct) ⟨us, []⟩ = pure ((Fis_group.ps : List Str).zip us))
  exact ⟨fd, F, FunD.bindsN F hb, fun s us hl => FunD.bindsA F hb s us hl⟩
theorem gl_is_group (X : K.In h) (G : h.Ns mainGlobals mg) (c : He.SaysX hdFa hdFn [] hdTf (exC cs) w h K) : mg "is_group" = some (.ref (He.ga K "is_group")) := He.glo_ok X G (He.SaysD.facts (He.SaysT.d c.t) (memFa (i := 8) rfl))
theorem fd_is_call (c : He.SaysX hdFa hdFn [] hdTf (exC cs) w h K) : ∃ fd, FnP K "is_call" (top 21) (He.ga K "is_call") fd ∧ Binds K fd Fis_call.ps [] ∧ ∀ (s : Shared) (us : List Value), us.length = 4 → BindsTo s fd ⟨us, []⟩ ((Fis_call.ps : List Str).zip us) := by
  obtain ⟨fd, F⟩ := He.SaysD.defs (He.SaysT.d c.t) (memFn (i := 9) (d := dd "is_call" 21) rfl)
  have hb := fun (kV doc pm : Value) (an : Option Addr) (cdv ct : Value) (us : List Value) (hl : us.length = (Fis_call.ps : List Str).length) => (match us, hl with | [_, _, _, _], _ => rfl : bindArgs (PySem.W.fnOf "is_call" "is_call" (defArgs (top 21)) (defBody (top 21)) (defScope (top 21)) .none kV doc pm an cdv ct) ⟨us, []⟩ = pure ((Fis_call.ps : List Str).zip us))
  exact ⟨fd, F, FunD.bindsN F hb, fun s us hl => FunD.bindsA F hb s us hl⟩
theorem gl_is_call (X : K.In h) (G : h.Ns mainGlobals mg) (c : He.SaysX hdFa hdFn [] hdTf (exC cs) w h K) : mg "is_call" = some (.ref (He.ga K "is_call")) := He.glo_ok X G (He.SaysD.facts (He.SaysT.d c.t) (memFa (i := 9) rfl))
theorem fd_is_set (c : He.SaysX hdFa hdFn [] hdTf (exC cs) w h K) : ∃ fd, FnP K "is_set" (top 22) (He.ga K "is_set") fd ∧ Binds K fd Fis_set.ps [] ∧ ∀ (s : Shared) (us : List Value), us.length = 2 → BindsTo s fd ⟨us, []⟩ ((Fis_set.ps : List Str).zip us) := by
  obtain ⟨fd, F⟩ := He.SaysD.defs (He.SaysT.d c.t) (memFn (i := 10) (d := dd "is_set" 22) rfl)
  have hb := fun (kV doc pm : Value) (an : Option Addr) (cdv ct : Value) (us : List Value) (hl : us.length = (Fis_set.ps : List Str).length) => (match us, hl with | [_, _], _ => rfl : bindArgs (PySem.W.fnOf "is_set" "is_set" (defArgs (top 22)) (defBody (top 22)) (defScope (top 22)) .none kV doc pm an cdv ct) ⟨us, []⟩ = pure ((Fis_set.ps : List Str).zip us))
  exact ⟨fd, F, FunD.bindsN F hb, fun s us hl => FunD.bindsA F hb s us hl⟩
theorem gl_is_set (X : K.In h) (G : h.Ns mainGlobals mg) (c : He.SaysX hdFa hdFn [] hdTf (exC cs) w h K) : mg "is_set" = some (.ref (He.ga K "is_set")) := He.glo_ok X G (He.SaysD.facts (He.SaysT.d c.t) (memFa (i := 10) rfl))
theorem fd_names_of (c : He.SaysX hdFa hdFn [] hdTf (exC cs) w h K) : ∃ fd, FnP K "names_of" (top 23) (He.ga K "names_of") fd ∧ Binds K fd Fnames_of.ps [] ∧ ∀ (s : Shared) (us : List Value), us.length = 1 → BindsTo s fd ⟨us, []⟩ ((Fnames_of.ps : List Str).zip us) := by
  obtain ⟨fd, F⟩ := He.SaysD.defs (He.SaysT.d c.t) (memFn (i := 11) (d := dd "names_of" 23) rfl)
  have hb := fun (kV doc pm : Value) (an : Option Addr) (cdv ct : Value) (us : List Value) (hl : us.length = (Fnames_of.ps : List Str).length) => (match us, hl with | [_], _ => rfl : bindArgs (PySem.W.fnOf "names_of" "names_of" (defArgs (top 23)) (defBody (top 23)) (defScope (top 23)) .none kV doc pm an cdv ct) ⟨us, []⟩ = pure ((Fnames_of.ps : List Str).zip us))
  exact ⟨fd, F, FunD.bindsN F hb, fun s us hl => FunD.bindsA F hb s us hl⟩
theorem gl_names_of (X : K.In h) (G : h.Ns mainGlobals mg) (c : He.SaysX hdFa hdFn [] hdTf (exC cs) w h K) : mg "names_of" = some (.ref (He.ga K "names_of")) := He.glo_ok X G (He.SaysD.facts (He.SaysT.d c.t) (memFa (i := 11) rfl))
theorem fd_known (c : He.SaysX hdFa hdFn [] hdTf (exC cs) w h K) : ∃ fd, FnP K "known" (top 25) (He.ga K "known") fd ∧ Binds K fd Fknown.ps [] ∧ ∀ (s : Shared) (us : List Value), us.length = 2 → BindsTo s fd ⟨us, []⟩ ((Fknown.ps : List Str).zip us) := by
  obtain ⟨fd, F⟩ := He.SaysD.defs (He.SaysT.d c.t) (memFn (i := 12) (d := dd "known" 25) rfl)
  have hb := fun (kV doc pm : Value) (an : Option Addr) (cdv ct : Value) (us : List Value) (hl : us.length = (Fknown.ps : List Str).length) => (match us, hl with | [_, _], _ => rfl : bindArgs (PySem.W.fnOf "known" "known" (defArgs (top 25)) (defBody (top 25)) (defScope (top 25)) .none kV doc pm an cdv ct) ⟨us, []⟩ = pure ((Fknown.ps : List Str).zip us))
  exact ⟨fd, F, FunD.bindsN F hb, fun s us hl => FunD.bindsA F hb s us hl⟩
theorem gl_known (X : K.In h) (G : h.Ns mainGlobals mg) (c : He.SaysX hdFa hdFn [] hdTf (exC cs) w h K) : mg "known" = some (.ref (He.ga K "known")) := He.glo_ok X G (He.SaysD.facts (He.SaysT.d c.t) (memFa (i := 12) rfl))
theorem fd_count (c : He.SaysX hdFa hdFn [] hdTf (exC cs) w h K) : ∃ fd, FnP K "count" (top 26) (He.ga K "count") fd ∧ Binds K fd Fcount.ps [] ∧ ∀ (s : Shared) (us : List Value), us.length = 2 → BindsTo s fd ⟨us, []⟩ ((Fcount.ps : List Str).zip us) := by
  obtain ⟨fd, F⟩ := He.SaysD.defs (He.SaysT.d c.t) (memFn (i := 13) (d := dd "count" 26) rfl)
  have hb := fun (kV doc pm : Value) (an : Option Addr) (cdv ct : Value) (us : List Value) (hl : us.length = (Fcount.ps : List Str).length) => (match us, hl with | [_, _], _ => rfl : bindArgs (PySem.W.fnOf "count" "count" (defArgs (top 26)) (defBody (top 26)) (defScope (top 26)) .none kV doc pm an cdv ct) ⟨us, []⟩ = pure ((Fcount.ps : List Str).zip us))
  exact ⟨fd, F, FunD.bindsN F hb, fun s us hl => FunD.bindsA F hb s us hl⟩
theorem gl_count (X : K.In h) (G : h.Ns mainGlobals mg) (c : He.SaysX hdFa hdFn [] hdTf (exC cs) w h K) : mg "count" = some (.ref (He.ga K "count")) := He.glo_ok X G (He.SaysD.facts (He.SaysT.d c.t) (memFa (i := 13) rfl))
theorem fd_is_open (c : He.SaysX hdFa hdFn [] hdTf (exC cs) w h K) : ∃ fd, FnP K "is_open" (top 27) (He.ga K "is_open") fd ∧ Binds K fd Fis_open.ps [] ∧ ∀ (s : Shared) (us : List Value), us.length = 2 → BindsTo s fd ⟨us, []⟩ ((Fis_open.ps : List Str).zip us) := by
  obtain ⟨fd, F⟩ := He.SaysD.defs (He.SaysT.d c.t) (memFn (i := 14) (d := dd "is_open" 27) rfl)
  have hb := fun (kV doc pm : Value) (an : Option Addr) (cdv ct : Value) (us : List Value) (hl : us.length = (Fis_open.ps : List Str).length) => (match us, hl with | [_, _], _ => rfl : bindArgs (PySem.W.fnOf "is_open" "is_open" (defArgs (top 27)) (defBody (top 27)) (defScope (top 27)) .none kV doc pm an cdv ct) ⟨us, []⟩ = pure ((Fis_open.ps : List Str).zip us))
  exact ⟨fd, F, FunD.bindsN F hb, fun s us hl => FunD.bindsA F hb s us hl⟩
theorem gl_is_open (X : K.In h) (G : h.Ns mainGlobals mg) (c : He.SaysX hdFa hdFn [] hdTf (exC cs) w h K) : mg "is_open" = some (.ref (He.ga K "is_open")) := He.glo_ok X G (He.SaysD.facts (He.SaysT.d c.t) (memFa (i := 14) rfl))
theorem fd__law_take (c : He.SaysX hdFa hdFn [] hdTf (exC cs) w h K) : ∃ fd, FnP K "_law_take" (top 30) (He.ga K "_law_take") fd ∧ Binds K fd F_law_take.ps [] ∧ ∀ (s : Shared) (us : List Value), us.length = 2 → BindsTo s fd ⟨us, []⟩ ((F_law_take.ps : List Str).zip us) := by
  obtain ⟨fd, F⟩ := He.SaysD.defs (He.SaysT.d c.t) (memFn (i := 15) (d := dd "_law_take" 30) rfl)
  have hb := fun (kV doc pm : Value) (an : Option Addr) (cdv ct : Value) (us : List Value) (hl : us.length = (F_law_take.ps : List Str).length) => (match us, hl with | [_, _], _ => rfl : bindArgs (PySem.W.fnOf "_law_take" "_law_take" (defArgs (top 30)) (defBody (top 30)) (defScope (top 30)) .none kV doc pm an cdv ct) ⟨us, []⟩ = pure ((F_law_take.ps : List Str).zip us))
  exact ⟨fd, F, FunD.bindsN F hb, fun s us hl => FunD.bindsA F hb s us hl⟩
theorem gl__law_take (X : K.In h) (G : h.Ns mainGlobals mg) (c : He.SaysX hdFa hdFn [] hdTf (exC cs) w h K) : mg "_law_take" = some (.ref (He.ga K "_law_take")) := He.glo_ok X G (He.SaysD.facts (He.SaysT.d c.t) (memFa (i := 15) rfl))
theorem fd__law_pick (c : He.SaysX hdFa hdFn [] hdTf (exC cs) w h K) : ∃ fd, FnP K "_law_pick" (top 31) (He.ga K "_law_pick") fd ∧ Binds K fd F_law_pick.ps [] ∧ ∀ (s : Shared) (us : List Value), us.length = 2 → BindsTo s fd ⟨us, []⟩ ((F_law_pick.ps : List Str).zip us) := by
  obtain ⟨fd, F⟩ := He.SaysD.defs (He.SaysT.d c.t) (memFn (i := 16) (d := dd "_law_pick" 31) rfl)
  have hb := fun (kV doc pm : Value) (an : Option Addr) (cdv ct : Value) (us : List Value) (hl : us.length = (F_law_pick.ps : List Str).length) => (match us, hl with | [_, _], _ => rfl : bindArgs (PySem.W.fnOf "_law_pick" "_law_pick" (defArgs (top 31)) (defBody (top 31)) (defScope (top 31)) .none kV doc pm an cdv ct) ⟨us, []⟩ = pure ((F_law_pick.ps : List Str).zip us))
  exact ⟨fd, F, FunD.bindsN F hb, fun s us hl => FunD.bindsA F hb s us hl⟩
theorem gl__law_pick (X : K.In h) (G : h.Ns mainGlobals mg) (c : He.SaysX hdFa hdFn [] hdTf (exC cs) w h K) : mg "_law_pick" = some (.ref (He.ga K "_law_pick")) := He.glo_ok X G (He.SaysD.facts (He.SaysT.d c.t) (memFa (i := 16) rfl))
theorem fd__law_goals (c : He.SaysX hdFa hdFn [] hdTf (exC cs) w h K) : ∃ fd, FnP K "_law_goals" (top 37) (He.ga K "_law_goals") fd ∧ Binds K fd F_law_goals.ps [] ∧ ∀ (s : Shared) (us : List Value), us.length = 2 → BindsTo s fd ⟨us, []⟩ ((F_law_goals.ps : List Str).zip us) := by
  obtain ⟨fd, F⟩ := He.SaysD.defs (He.SaysT.d c.t) (memFn (i := 17) (d := dd "_law_goals" 37) rfl)
  have hb := fun (kV doc pm : Value) (an : Option Addr) (cdv ct : Value) (us : List Value) (hl : us.length = (F_law_goals.ps : List Str).length) => (match us, hl with | [_, _], _ => rfl : bindArgs (PySem.W.fnOf "_law_goals" "_law_goals" (defArgs (top 37)) (defBody (top 37)) (defScope (top 37)) .none kV doc pm an cdv ct) ⟨us, []⟩ = pure ((F_law_goals.ps : List Str).zip us))
  exact ⟨fd, F, FunD.bindsN F hb, fun s us hl => FunD.bindsA F hb s us hl⟩
theorem gl__law_goals (X : K.In h) (G : h.Ns mainGlobals mg) (c : He.SaysX hdFa hdFn [] hdTf (exC cs) w h K) : mg "_law_goals" = some (.ref (He.ga K "_law_goals")) := He.glo_ok X G (He.SaysD.facts (He.SaysT.d c.t) (memFa (i := 17) rfl))
theorem fd__law_program (c : He.SaysX hdFa hdFn [] hdTf (exC cs) w h K) : ∃ fd, FnP K "_law_program" (top 38) (He.ga K "_law_program") fd ∧ Binds K fd F_law_program.ps [] ∧ ∀ (s : Shared) (us : List Value), us.length = 4 → BindsTo s fd ⟨us, []⟩ ((F_law_program.ps : List Str).zip us) := by
  obtain ⟨fd, F⟩ := He.SaysD.defs (He.SaysT.d c.t) (memFn (i := 18) (d := dd "_law_program" 38) rfl)
  have hb := fun (kV doc pm : Value) (an : Option Addr) (cdv ct : Value) (us : List Value) (hl : us.length = (F_law_program.ps : List Str).length) => (match us, hl with | [_, _, _, _], _ => rfl : bindArgs (PySem.W.fnOf "_law_program" "_law_program" (defArgs (top 38)) (defBody (top 38)) (defScope (top 38)) .none kV doc pm an cdv ct) ⟨us, []⟩ = pure ((F_law_program.ps : List Str).zip us))
  exact ⟨fd, F, FunD.bindsN F hb, fun s us hl => FunD.bindsA F hb s us hl⟩
theorem gl__law_program (X : K.In h) (G : h.Ns mainGlobals mg) (c : He.SaysX hdFa hdFn [] hdTf (exC cs) w h K) : mg "_law_program" = some (.ref (He.ga K "_law_program")) := He.glo_ok X G (He.SaysD.facts (He.SaysT.d c.t) (memFa (i := 18) rfl))
theorem fd__law_dance (c : He.SaysX hdFa hdFn [] hdTf (exC cs) w h K) : ∃ fd, FnP K "_law_dance" (top 39) (He.ga K "_law_dance") fd ∧ Binds K fd F_law_dance.ps [] ∧ ∀ (s : Shared) (us : List Value), us.length = 2 → BindsTo s fd ⟨us, []⟩ ((F_law_dance.ps : List Str).zip us) := by
  obtain ⟨fd, F⟩ := He.SaysD.defs (He.SaysT.d c.t) (memFn (i := 19) (d := dd "_law_dance" 39) rfl)
  have hb := fun (kV doc pm : Value) (an : Option Addr) (cdv ct : Value) (us : List Value) (hl : us.length = (F_law_dance.ps : List Str).length) => (match us, hl with | [_, _], _ => rfl : bindArgs (PySem.W.fnOf "_law_dance" "_law_dance" (defArgs (top 39)) (defBody (top 39)) (defScope (top 39)) .none kV doc pm an cdv ct) ⟨us, []⟩ = pure ((F_law_dance.ps : List Str).zip us))
  exact ⟨fd, F, FunD.bindsN F hb, fun s us hl => FunD.bindsA F hb s us hl⟩
theorem gl__law_dance (X : K.In h) (G : h.Ns mainGlobals mg) (c : He.SaysX hdFa hdFn [] hdTf (exC cs) w h K) : mg "_law_dance" = some (.ref (He.ga K "_law_dance")) := He.glo_ok X G (He.SaysD.facts (He.SaysT.d c.t) (memFa (i := 19) rfl))
theorem fd__law_known (c : He.SaysX hdFa hdFn [] hdTf (exC cs) w h K) : ∃ fd, FnP K "_law_known" (top 40) (He.ga K "_law_known") fd ∧ Binds K fd F_law_known.ps [] ∧ ∀ (s : Shared) (us : List Value), us.length = 3 → BindsTo s fd ⟨us, []⟩ ((F_law_known.ps : List Str).zip us) := by
  obtain ⟨fd, F⟩ := He.SaysD.defs (He.SaysT.d c.t) (memFn (i := 20) (d := dd "_law_known" 40) rfl)
  have hb := fun (kV doc pm : Value) (an : Option Addr) (cdv ct : Value) (us : List Value) (hl : us.length = (F_law_known.ps : List Str).length) => (match us, hl with | [_, _, _], _ => rfl : bindArgs (PySem.W.fnOf "_law_known" "_law_known" (defArgs (top 40)) (defBody (top 40)) (defScope (top 40)) .none kV doc pm an cdv ct) ⟨us, []⟩ = pure ((F_law_known.ps : List Str).zip us))
  exact ⟨fd, F, FunD.bindsN F hb, fun s us hl => FunD.bindsA F hb s us hl⟩
theorem gl__law_known (X : K.In h) (G : h.Ns mainGlobals mg) (c : He.SaysX hdFa hdFn [] hdTf (exC cs) w h K) : mg "_law_known" = some (.ref (He.ga K "_law_known")) := He.glo_ok X G (He.SaysD.facts (He.SaysT.d c.t) (memFa (i := 20) rfl))
theorem fd__law_count (c : He.SaysX hdFa hdFn [] hdTf (exC cs) w h K) : ∃ fd, FnP K "_law_count" (top 41) (He.ga K "_law_count") fd ∧ Binds K fd F_law_count.ps [] ∧ ∀ (s : Shared) (us : List Value), us.length = 2 → BindsTo s fd ⟨us, []⟩ ((F_law_count.ps : List Str).zip us) := by
  obtain ⟨fd, F⟩ := He.SaysD.defs (He.SaysT.d c.t) (memFn (i := 21) (d := dd "_law_count" 41) rfl)
  have hb := fun (kV doc pm : Value) (an : Option Addr) (cdv ct : Value) (us : List Value) (hl : us.length = (F_law_count.ps : List Str).length) => (match us, hl with | [_, _], _ => rfl : bindArgs (PySem.W.fnOf "_law_count" "_law_count" (defArgs (top 41)) (defBody (top 41)) (defScope (top 41)) .none kV doc pm an cdv ct) ⟨us, []⟩ = pure ((F_law_count.ps : List Str).zip us))
  exact ⟨fd, F, FunD.bindsN F hb, fun s us hl => FunD.bindsA F hb s us hl⟩
theorem gl__law_count (X : K.In h) (G : h.Ns mainGlobals mg) (c : He.SaysX hdFa hdFn [] hdTf (exC cs) w h K) : mg "_law_count" = some (.ref (He.ga K "_law_count")) := He.glo_ok X G (He.SaysD.facts (He.SaysT.d c.t) (memFa (i := 21) rfl))
theorem fd__law_open (c : He.SaysX hdFa hdFn [] hdTf (exC cs) w h K) : ∃ fd, FnP K "_law_open" (top 42) (He.ga K "_law_open") fd ∧ Binds K fd F_law_open.ps [] ∧ ∀ (s : Shared) (us : List Value), us.length = 2 → BindsTo s fd ⟨us, []⟩ ((F_law_open.ps : List Str).zip us) := by
  obtain ⟨fd, F⟩ := He.SaysD.defs (He.SaysT.d c.t) (memFn (i := 22) (d := dd "_law_open" 42) rfl)
  have hb := fun (kV doc pm : Value) (an : Option Addr) (cdv ct : Value) (us : List Value) (hl : us.length = (F_law_open.ps : List Str).length) => (match us, hl with | [_, _], _ => rfl : bindArgs (PySem.W.fnOf "_law_open" "_law_open" (defArgs (top 42)) (defBody (top 42)) (defScope (top 42)) .none kV doc pm an cdv ct) ⟨us, []⟩ = pure ((F_law_open.ps : List Str).zip us))
  exact ⟨fd, F, FunD.bindsN F hb, fun s us hl => FunD.bindsA F hb s us hl⟩
theorem gl__law_open (X : K.In h) (G : h.Ns mainGlobals mg) (c : He.SaysX hdFa hdFn [] hdTf (exC cs) w h K) : mg "_law_open" = some (.ref (He.ga K "_law_open")) := He.glo_ok X G (He.SaysD.facts (He.SaysT.d c.t) (memFa (i := 22) rfl))
theorem fd__law_bent (c : He.SaysX hdFa hdFn [] hdTf (exC cs) w h K) : ∃ fd, FnP K "_law_bent" (top 43) (He.ga K "_law_bent") fd ∧ Binds K fd F_law_bent.ps [] ∧ ∀ (s : Shared) (us : List Value), us.length = 1 → BindsTo s fd ⟨us, []⟩ ((F_law_bent.ps : List Str).zip us) := by
  obtain ⟨fd, F⟩ := He.SaysD.defs (He.SaysT.d c.t) (memFn (i := 23) (d := dd "_law_bent" 43) rfl)
  have hb := fun (kV doc pm : Value) (an : Option Addr) (cdv ct : Value) (us : List Value) (hl : us.length = (F_law_bent.ps : List Str).length) => (match us, hl with | [_], _ => rfl : bindArgs (PySem.W.fnOf "_law_bent" "_law_bent" (defArgs (top 43)) (defBody (top 43)) (defScope (top 43)) .none kV doc pm an cdv ct) ⟨us, []⟩ = pure ((F_law_bent.ps : List Str).zip us))
  exact ⟨fd, F, FunD.bindsN F hb, fun s us hl => FunD.bindsA F hb s us hl⟩
theorem gl__law_bent (X : K.In h) (G : h.Ns mainGlobals mg) (c : He.SaysX hdFa hdFn [] hdTf (exC cs) w h K) : mg "_law_bent" = some (.ref (He.ga K "_law_bent")) := He.glo_ok X G (He.SaysD.facts (He.SaysT.d c.t) (memFa (i := 23) rfl))
theorem fd__law_state (c : He.SaysX hdFa hdFn [] hdTf (exC cs) w h K) : ∃ fd, FnP K "_law_state" (top 29) (He.ga K "_law_state") fd ∧ Binds K fd ["script"] [] ∧ ∀ (s : Shared) (us : List Value), us.length = 1 → BindsTo s fd ⟨us, []⟩ ((["script"] : List Str).zip us) := by
  obtain ⟨fd, F⟩ := He.SaysD.defs (He.SaysT.d c.t) (memFn (i := 24) (d := dd "_law_state" 29) rfl)
  have hb := fun (kV doc pm : Value) (an : Option Addr) (cdv ct : Value) (us : List Value) (hl : us.length = (["script"] : List Str).length) => (match us, hl with | [_], _ => rfl : bindArgs (PySem.W.fnOf "_law_state" "_law_state" (defArgs (top 29)) (defBody (top 29)) (defScope (top 29)) .none kV doc pm an cdv ct) ⟨us, []⟩ = pure ((["script"] : List Str).zip us))
  exact ⟨fd, F, FunD.bindsN F hb, fun s us hl => FunD.bindsA F hb s us hl⟩
theorem gl__law_state (X : K.In h) (G : h.Ns mainGlobals mg) (c : He.SaysX hdFa hdFn [] hdTf (exC cs) w h K) : mg "_law_state" = some (.ref (He.ga K "_law_state")) := He.glo_ok X G (He.SaysD.facts (He.SaysT.d c.t) (memFa (i := 24) rfl))
theorem fd_law (c : He.SaysX hdFa hdFn [] hdTf (exC cs) w h K) : ∃ fd, FnP K "law" (top 44) (He.ga K "law") fd ∧ Binds K fd ["script"] [] ∧ ∀ (s : Shared) (us : List Value), us.length = 1 → BindsTo s fd ⟨us, []⟩ ((["script"] : List Str).zip us) := by
  obtain ⟨fd, F⟩ := He.SaysD.defs (He.SaysT.d c.t) (memFn (i := 25) (d := dd "law" 44) rfl)
  have hb := fun (kV doc pm : Value) (an : Option Addr) (cdv ct : Value) (us : List Value) (hl : us.length = (["script"] : List Str).length) => (match us, hl with | [_], _ => rfl : bindArgs (PySem.W.fnOf "law" "law" (defArgs (top 44)) (defBody (top 44)) (defScope (top 44)) .none kV doc pm an cdv ct) ⟨us, []⟩ = pure ((["script"] : List Str).zip us))
  exact ⟨fd, F, FunD.bindsN F hb, fun s us hl => FunD.bindsA F hb s us hl⟩
theorem gl_law (X : K.In h) (G : h.Ns mainGlobals mg) (c : He.SaysX hdFa hdFn [] hdTf (exC cs) w h K) : mg "law" = some (.ref (He.ga K "law")) := He.glo_ok X G (He.SaysD.facts (He.SaysT.d c.t) (memFa (i := 25) rfl))
variable {base : Heap}
theorem hd_ents (X : K.In h) (G : h.Ns mainGlobals mg) (c : He.SaysX hdFa hdFn [] hdTf (exC cs) w h K) (TB : ∀ p ∈ hdTf, LamX.TabB base mg (He.cT K p).1 (He.cT K p).2) : ∀ i fi, T[i]? = some fi → EntOk (hdP K) prog0 w K mg base T fns i fi := by
  have Mm := hd_md X G c
  intro i fi e
  have hi : i < 24 := (List.getElem?_eq_some_iff.mp e).1
  match i, hi with
  | 0, _ =>
    obtain rfl : Fis_place = fi := Option.some.inj e
    obtain ⟨fd, F, b, _⟩ := fd_is_place c
    exact ent_code Mm rfl F (gl_is_place X G c) b sc_is_place mt_is_place rfl
  | 1, _ =>
    obtain rfl : Fare_places = fi := Option.some.inj e
    obtain ⟨fd, F, b, _⟩ := fd_are_places c
    exact ent_code Mm rfl F (gl_are_places X G c) b sc_are_places mt_are_places rfl
  | 2, _ =>
    obtain rfl : Fis_name = fi := Option.some.inj e
    obtain ⟨fd, F, b, _⟩ := fd_is_name c
    exact ent_code Mm rfl F (gl_is_name X G c) b sc_is_name mt_is_name rfl
  | 3, _ =>
    obtain rfl : Fis_program = fi := Option.some.inj e
    obtain ⟨fd, F, b, _⟩ := fd_is_program c
    exact ent_code Mm rfl F (gl_is_program X G c) b sc_is_program mt_is_program rfl
  | 4, _ =>
    obtain rfl : Fis_row = fi := Option.some.inj e
    obtain ⟨fd, F, b, _⟩ := fd_is_row c
    exact ent_code Mm rfl F (gl_is_row X G c) b sc_is_row mt_is_row rfl
  | 5, _ =>
    obtain rfl : Fis_single = fi := Option.some.inj e
    obtain ⟨fd, F, b, _⟩ := fd_is_single c
    exact ent_code Mm rfl F (gl_is_single X G c) b sc_is_single mt_is_single rfl
  | 6, _ =>
    obtain rfl : Fis_dance = fi := Option.some.inj e
    obtain ⟨fd, F, b, _⟩ := fd_is_dance c
    exact ent_code Mm rfl F (gl_is_dance X G c) b sc_is_dance mt_is_dance rfl
  | 7, _ =>
    obtain rfl : Fare_tables = fi := Option.some.inj e
    obtain ⟨fd, F, b, _⟩ := fd_are_tables c
    exact ent_code Mm rfl F (gl_are_tables X G c) b sc_are_tables mt_are_tables rfl
  | 8, _ =>
    obtain rfl : Fis_group = fi := Option.some.inj e
    obtain ⟨fd, F, b, _⟩ := fd_is_group c
    exact ent_code Mm rfl F (gl_is_group X G c) b sc_is_group mt_is_group rfl
  | 9, _ =>
    obtain rfl : Fis_call = fi := Option.some.inj e
    obtain ⟨fd, F, b, _⟩ := fd_is_call c
    exact ent_code Mm rfl F (gl_is_call X G c) b sc_is_call mt_is_call rfl
  | 10, _ =>
    obtain rfl : Fis_set = fi := Option.some.inj e
    obtain ⟨fd, F, b, _⟩ := fd_is_set c
    exact ent_code Mm rfl F (gl_is_set X G c) b sc_is_set mt_is_set rfl
  | 11, _ =>
    obtain rfl : Fnames_of = fi := Option.some.inj e
    obtain ⟨fd, F, b, _⟩ := fd_names_of c
    exact ent_code Mm rfl F (gl_names_of X G c) b sc_names_of mt_names_of rfl
  | 12, _ =>
    obtain rfl : Fknown = fi := Option.some.inj e
    obtain ⟨fd, F, b, _⟩ := fd_known c
    exact ent_code Mm rfl F (gl_known X G c) b sc_known mt_known rfl
  | 13, _ =>
    obtain rfl : Fcount = fi := Option.some.inj e
    obtain ⟨fd, F, b, _⟩ := fd_count c
    exact ent_code Mm rfl F (gl_count X G c) b sc_count mt_count rfl
  | 14, _ =>
    obtain rfl : Fis_open = fi := Option.some.inj e
    obtain ⟨fd, F, b, _⟩ := fd_is_open c
    exact ent_code Mm rfl F (gl_is_open X G c) b sc_is_open mt_is_open rfl
  | 15, _ =>
    obtain rfl : F_law_take = fi := Option.some.inj e
    obtain ⟨fd, F, b, _⟩ := fd__law_take c
    exact ⟨_, fd, gl__law_take X G c, F.kp, b, fun dd _ => (ok_take Mm rfl F).mono (by omega)⟩
  | 16, _ =>
    obtain rfl : F_law_pick = fi := Option.some.inj e
    obtain ⟨fd, F, b, _⟩ := fd__law_pick c
    exact ent_code Mm rfl F (gl__law_pick X G c) b sc__law_pick mt__law_pick rfl
  | 17, _ =>
    obtain rfl : F_law_goals = fi := Option.some.inj e
    obtain ⟨fd, F, b, _⟩ := fd__law_goals c
    exact ent_code Mm rfl F (gl__law_goals X G c) b sc__law_goals mt__law_goals rfl
  | 18, _ =>
    obtain rfl : F_law_program = fi := Option.some.inj e
    obtain ⟨fd, F, b, _⟩ := fd__law_program c
    exact ent_code Mm rfl F (gl__law_program X G c) b sc__law_program mt__law_program rfl
  | 19, _ =>
    obtain rfl : F_law_dance = fi := Option.some.inj e
    obtain ⟨fd, F, b, _⟩ := fd__law_dance c
    exact ent_code Mm rfl F (gl__law_dance X G c) b sc__law_dance mt__law_dance rfl
  | 20, _ =>
    obtain rfl : F_law_known = fi := Option.some.inj e
    obtain ⟨fd, F, b, _⟩ := fd__law_known c
    exact ent_code Mm rfl F (gl__law_known X G c) b sc__law_known mt__law_known rfl
  | 21, _ =>
    obtain rfl : F_law_count = fi := Option.some.inj e
    obtain ⟨fd, F, b, _⟩ := fd__law_count c
    exact ent_code Mm rfl F (gl__law_count X G c) b sc__law_count mt__law_count rfl
  | 22, _ =>
    obtain rfl : F_law_open = fi := Option.some.inj e
    obtain ⟨fd, F, b, _⟩ := fd__law_open c
    exact ent_code Mm rfl F (gl__law_open X G c) b sc__law_open mt__law_open rfl
  | 23, _ =>
    obtain rfl : F_law_bent = fi := Option.some.inj e
    obtain ⟨fd, F, b, _⟩ := fd__law_bent c
    exact ent_code Mm rfl F (gl__law_bent X G c) b sc__law_bent mt__law_bent rfl
end
end Pv
set_option linter.all false
set_option maxRecDepth 100000
set_option maxHeartbeats 4000000
namespace Pv
open PySem PySem.W
def mnD (xs : List PyData) (p : PyData → Prop) : Prop := headOr xs fun x r => ordOk (x :: r) ∧ p (W.minD x r)
def mxD (xs : List PyData) (p : PyData → Prop) : Prop := headOr xs fun x r => ordOk (x :: r) ∧ p (W.maxD x r)
def stD (xs : List PyData) (p : PyData → Prop) : Prop := (ordOk xs ∧ W.Sortable xs) ∧ p (.list (srtD xs))
section
variable (d : PyData) (p : PyData → Prop)
@[simp] theorem pr_len : primD .len [d] p = lenD d fun n => p (.int n) := rfl
@[simp] theorem pr_mn : primD .mn [d] p = asS d fun xs => mnD xs p := rfl
@[simp] theorem pr_mx : primD .mx [d] p = asS d fun xs => mxD xs p := rfl
@[simp] theorem pr_abs : primD .abs [d] p = asI d fun i => p (.int (absI i)) := rfl
@[simp] theorem pr_srt : primD .srt [d] p = asS d fun xs => stD xs p := rfl
@[simp] theorem pr_tup : primD .tup [d] p = asS d fun xs => p (.tuple xs) := rfl
@[simp] theorem pr_lst : primD .lst [d] p = asS d fun xs => p (.list xs) := rfl
@[simp] theorem pr_int : primD .int [d] p = intD d p := rfl
@[simp] theorem pr_all : primD .all [d] p = asS d fun xs => xs.all isBoolD = true ∧ p (.bool (xs.all isTrueD)) := rfl
@[simp] theorem pr_any : primD .any [d] p = asS d fun xs => xs.all isBoolD = true ∧ p (.bool (xs.any isTrueD)) := rfl
@[simp] theorem pr_sum : primD .sum [d] p = asL d fun xs => xs.all isIntT = true ∧ p (.int (xs.map toI).sum) := rfl
@[simp] theorem pr_dct : primD .dct [d] p = asS d fun xs => pairsD xs fun l => (l.map (·.1)).Nodup ∧ p (.dict (encP l)) := rfl
end
theorem cmpF_map {α : Type} (enc : α → PyData) (g : α → PyData) {F : PyData → (List PyData → Prop) → Prop} : ∀ {l : List α}, (∀ a ∈ l, ∀ k, F (enc a) k = k [g a]) → ∀ p, cmpF F (l.map enc) p = p (l.map g)
  | [], _, p => rfl
  | a :: l, h, p => by
    rw [List.map_cons, cmpF, h a List.mem_cons_self, cmpF_map enc g (l := l) fun b hb => h b (List.mem_cons_of_mem _ hb)]
    rfl
theorem cmpF_filter {α : Type} (enc : α → PyData) (g : α → PyData) (t : α → Bool) {F : PyData → (List PyData → Prop) → Prop} : ∀ {l : List α}, (∀ a ∈ l, ∀ k, F (enc a) k = if t a = true then k [g a] else k []) → ∀ p, cmpF F (l.map enc) p = p ((l.filter t).map g)
  | [], _, p => rfl
  | a :: l, h, p => by
    rw [List.map_cons, cmpF, h a List.mem_cons_self]
    rw [cmpF_filter enc g t (l := l) fun b hb => h b (List.mem_cons_of_mem _ hb), cmpF_filter enc g t (l := l) fun b hb => h b (List.mem_cons_of_mem _ hb)]
    cases e : t a <;> simp [e]
theorem cm {α : Type} (enc : α → PyData) (g : α → PyData) {F : PyData → (List PyData → Prop) → Prop} {l : List α} {p : List PyData → Prop} (h : ∀ a ∈ l, ∀ k, F (enc a) k = k [g a]) : cmpF F (l.map enc) p ↔ p (l.map g) := iff_of_eq (cmpF_map enc g h p)
theorem cf {α : Type} (enc : α → PyData) (g : α → PyData) (t : α → Bool) {F : PyData → (List PyData → Prop) → Prop} {l : List α} {p : List PyData → Prop} (h : ∀ a ∈ l, ∀ k, F (enc a) k = if t a = true then k [g a] else k []) : cmpF F (l.map enc) p ↔ p ((l.filter t).map g) := iff_of_eq (cmpF_filter enc g t h p)
theorem cmpF_none {F : PyData → (List PyData → Prop) → Prop} : ∀ {l : List PyData}, (∀ a ∈ l, ∀ k, F a k = k []) → ∀ p, cmpF F l p = p []
  | [], _, p => rfl
  | a :: l, h, p => by
    rw [cmpF, h a List.mem_cons_self, cmpF_none (l := l) fun b hb => h b (List.mem_cons_of_mem _ hb)]
    rfl
/-- over data as they are -/
theorem cmpF_id {F : PyData → (List PyData → Prop) → Prop} (g : PyData → PyData) : ∀ {l : List PyData}, (∀ a ∈ l, ∀ k, F a k = k [g a]) → ∀ p, cmpF F l p = p (l.map g)
  | [], _, p => rfl
  | a :: l, h, p => by
    rw [cmpF, h a List.mem_cons_self, cmpF_id g (l := l) fun b hb => h b (List.mem_cons_of_mem _ hb)]
    rfl
abbrev Pl := T3 Int Int Int
def pl (p : Pl) : PyData := .tuple [.int p.a, .int p.b, .int p.c]
def pls (l : List Pl) : PyData := .tuple (l.map pl)
theorem pl_toD : pl = Datum.toD := rfl
theorem pls_toD (l : List Pl) : pls l = Datum.toD (Tup.mk l) := rfl
theorem fit_datum {α : Type} [DecidableEq α] [Datum α] (a : α) (h : Datum.depth α ≤ 60) : fit (Datum.toD a) = true := by
  unfold fit
  rw [Datum.plain, Bool.true_and, decide_eq_true_eq]
  exact Nat.le_trans (Datum.depth_le a) h
theorem fit_pls (l : List Pl) : fit (pls l) = true := fit_datum (Tup.mk l) (by decide)
theorem fit_pl (p : Pl) : fit (pl p) = true := fit_datum p (by decide)
theorem fit_i (n : Int) : fit (.int n) = true := rfl
theorem fit_s (x : Str) : fit (.str x) = true := rfl
theorem fit_b (b : Bool) : fit (.bool b) = true := rfl
theorem fit_n : fit .none = true := rfl
theorem eqv_i (a b : Int) : PyData.eqv (.int a) (.int b) = decide (a = b) := by rw [PyData.eqv]; exact beq_decide _ _
theorem at0 (a b c : PyData) : L2.atI [a, b, c] 0 = some a := rfl
theorem at1 (a b c : PyData) : L2.atI [a, b, c] 1 = some b := rfl
theorem at2 (a b c : PyData) : L2.atI [a, b, c] 2 = some c := rfl
theorem at20 (a b : PyData) : L2.atI [a, b] 0 = some a := rfl
theorem at21 (a b : PyData) : L2.atI [a, b] 1 = some b := rfl
theorem at10 (a : PyData) : L2.atI [a] 0 = some a := rfl
theorem atc (a : PyData) (r : List PyData) : L2.atI (a :: r) 0 = some a := by simp [L2.atI, L2.ixN]
theorem atI_nat {α : Type} (xs : List α) (k : Nat) (h : k < xs.length) : L2.atI xs (k : Int) = some xs[k] := by
  have : (k : Int) < xs.length := by omega
  simp [L2.atI, L2.ixN, this, h]
theorem asS_pl (p : Pl) (k) : asS (pl p) k = k [.int p.a, .int p.b, .int p.c] := rfl
theorem asS_pls (l : List Pl) (k) : asS (pls l) k = k (l.map pl) := rfl
/-- a good place -/
def OkP (p : Pl) : Prop := (-20 ≤ p.a ∧ p.a ≤ 20) ∧ (-20 ≤ p.b ∧ p.b ≤ 20) ∧ 0 ≤ p.c ∧ p.c ≤ 3
instance (p : Pl) : Decidable (OkP p) := by unfold OkP; infer_instance
theorem c_isplace (d : Nat) (p : Pl) (q) (e) : callD T (d + 1) 0 [.v (pl p)] q e = q (.bool (decide (OkP p))) [.v (pl p)] := by
  rw [callD_s (fi := Fis_place) rfl, Fis_place, runF_code]
  have f : fit (.int 3) = true := rfl
  have A : ((if p.a < 0 then -p.a else p.a) ≤ 20) = (-20 ≤ p.a ∧ p.a ≤ 20) := propext (by split <;> constructor <;> omega)
  have B : ((if p.b < 0 then -p.b else p.b) ≤ 20) = (-20 ≤ p.b ∧ p.b ≤ 20) := propext (by split <;> constructor <;> omega)
  simp [-primD, pl, L2.atI, L2.ixN, cmpF, f, A, B, PyData.eqv]
  unfold OkP
  by_cases h1 : -20 ≤ p.a ∧ p.a ≤ 20 <;> by_cases h2 : -20 ≤ p.b ∧ p.b ≤ 20 <;> by_cases h3 : 0 ≤ p.c <;> simp [h1, h2, h3]
theorem memD_map {α : Type} [DecidableEq α] [Datum α] (a : α) (l : List α) : memD (Datum.toD a) (l.map Datum.toD) = decide (a ∈ l) := by
  unfold memD
  rw [List.any_map, Bool.eq_iff_iff, List.any_eq_true, decide_eq_true_eq]
  simp only [Function.comp, Datum.eqv, decide_eq_true_eq]
  exact ⟨fun ⟨x, m, e⟩ => e ▸ m, fun m => ⟨a, m, rfl⟩⟩
theorem memD_str (a : Str) (l : List Str) : memD (.str a) (l.map .str) = decide (a ∈ l) := memD_map a l
theorem unlike_le : ∀ l : List PyData, unlike l ≤ l.length
  | [] => Nat.le_refl _
  | x :: r => by
    unfold unlike
    have := unlike_le r
    split <;> simp <;> omega
theorem unlike_nodup {α : Type} [DecidableEq α] [Datum α] : ∀ l : List α, unlike (l.map Datum.toD) = l.length ↔ l.Nodup
  | [] => by simp [unlike]
  | x :: r => by
    rw [List.map_cons, unlike, memD_map, List.nodup_cons, ← unlike_nodup r]
    have := unlike_le (r.map Datum.toD)
    rw [List.length_map] at this
    by_cases h : x ∈ r <;> simp [h]
    omega
/-- no two on one spot -/
def Spots (l : List Pl) : Prop := (l.map fun p => (p.a, p.b)).Nodup
instance (l : List Pl) : Decidable (Spots l) := by unfold Spots; infer_instance
theorem spots_eq (l : List Pl) : PyData.eqv (.int (unlike (l.map fun p => Datum.toD (p.a, p.b)))) (.int l.length) = decide (Spots l) := by
  have e : (l.map fun p => Datum.toD (p.a, p.b)) = (l.map fun p => (p.a, p.b)).map Datum.toD := by rw [List.map_map]; rfl
  have := unlike_nodup (l.map fun p => (p.a, p.b))
  rw [List.length_map] at this
  rw [e, PyData.eqv, Bool.eq_iff_iff, decide_eq_true_eq]
  show _ ↔ (l.map fun p => (p.a, p.b)).Nodup
  rw [← this]
  exact beq_iff_eq.trans Int.ofNat_inj
theorem c_are (d : Nat) (l : List Pl) (h : l ≠ []) (n : l.length ≤ 8) (q) (e) : callD T (d + 2) 1 [.v (pls l)] q e = q (.bool (decide ((∀ p ∈ l, OkP p) ∧ Spots l))) [.v (pls l)] := by
  rw [callD_s (fi := Fare_places) rfl, Fare_places, runF_code]
  have n1 : 1 ≤ (l.length : Int) := by have := List.length_pos_iff.mpr h; omega
  have n2 : (l.length : Int) ≤ 8 := by omega
  simp [-primD, pls, n1, n2]
  refine (cm pl (fun p => .bool (decide (OkP p))) ?_).trans ?_
  · intro p m k
    rw [c_isplace]
  have a1 : ∀ x ∈ l.map (fun p => PyData.bool (decide (OkP p))), isBoolD x = true := by simp
  have a2 : (∀ x ∈ l.map (fun p => PyData.bool (decide (OkP p))), isTrueD x = true) ↔ ∀ p ∈ l, OkP p := by simp
  rw [eq_true a1, true_and]
  by_cases hp : ∀ p ∈ l, OkP p
  · rw [if_pos (a2.mpr hp)]
    refine (cm pl (fun p => Datum.toD (p.a, p.b)) ?_).trans ?_
    · intro p m k
      rfl
    rw [spots_eq]
    have a3 : ∀ x ∈ l.map (fun p : Pl => Datum.toD (p.a, p.b)), intsT x = true := by
      intro x hx
      obtain ⟨p, _, rfl⟩ := List.mem_map.mp hx
      rfl
    have hp' := eq_true hp
    simp only [fit_i, hp', true_and, and_self, List.length_map]
    exact ⟨fun z => z.2.2, fun z => ⟨.inl a3, by omega, z⟩⟩
  · rw [if_neg (mt a2.mp hp)]
    simp [hp]
end Pv
set_option linter.all false
set_option maxRecDepth 100000
set_option maxHeartbeats 4000000
namespace Pv
open PySem PySem.W
def strL (l : List Str) : PyData := .list (l.map .str)
theorem strL_toD (l : List Str) : strL l = Datum.toD l := rfl
theorem fit_strL (l : List Str) : fit (strL l) = true := fit_datum l (by decide)
abbrev ptimes (n : Int) (p : PyData) : PyData := .tuple [.str "times", .int n, p]
abbrev ponly (g : Str) (p : PyData) : PyData := .tuple [.str "only", .str g, p]
abbrev prow (ps : List PyData) : PyData := .tuple [.str "row", .tuple ps]
abbrev pcall (c : Str) : PyData := .tuple [.str "call", .str c]
abbrev pturn (t : Str) : PyData := .tuple [.str t]
/-- a program's form: a text first -/
def Hd (w : Str) (p : PyData) : Prop := ∃ r, p = .tuple (.str w :: r)
/-- drawn programs, by depth -/
inductive Pr (cs gs : List Str) : Nat → PyData → Prop
  | times {d n p} : 1 ≤ n → n ≤ 4 → Pr cs gs d p → Pr cs gs (d + 1) (ptimes n p)
  | only {d g p} : g ∈ gs → Pr cs gs d p → Pr cs gs (d + 1) (ponly g p)
  | row {d ps} : 2 ≤ ps.length → ps.length ≤ 3 → (∀ p ∈ ps, Pr cs gs d p) → Pr cs gs (d + 1) (prow ps)
  | call {d c} : c ∈ cs → Pr cs gs d (pcall c)
  | turn {d t} : t ∈ (["left", "right", "about"] : List Str) → Pr cs gs d (pturn t)
theorem Pr.up {cs gs : List Str} {d : Nat} {p : PyData} (h : Pr cs gs d p) : Pr cs gs (d + 1) p := by
  induction h with
  | times a b _ ih => exact .times a b ih
  | only a _ ih => exact .only a ih
  | row a b _ ih => exact .row a b ih
  | call a => exact .call a
  | turn a => exact .turn a
theorem Pr.hd {cs gs : List Str} {d : Nat} {p : PyData} (h : Pr cs gs d p) : ∃ w, Hd w p := by
  cases h with
  | times a b _ => exact ⟨_, _, rfl⟩
  | only a _ => exact ⟨_, _, rfl⟩
  | row a b _ => exact ⟨_, _, rfl⟩
  | call a => exact ⟨_, _, rfl⟩
  | turn a => exact ⟨_, _, rfl⟩
theorem plain_all : ∀ {ps : List PyData}, (∀ p ∈ ps, p.plain = true) → PyData.plainAll ps = true
  | [], _ => rfl
  | p :: ps, h => by rw [PyData.plainAll, h p List.mem_cons_self, plain_all fun p m => h p (List.mem_cons_of_mem _ m)]; rfl
theorem depth_all {n : Nat} : ∀ {ps : List PyData}, (∀ p ∈ ps, p.depth ≤ n) → PyData.depthAll ps ≤ n
  | [], _ => Nat.zero_le _
  | p :: ps, h => by
    rw [PyData.depthAll]
    have h1 := h p List.mem_cons_self
    have h2 := depth_all fun p m => h p (List.mem_cons_of_mem _ m)
    omega
/-- plain, not deep -/
theorem Pr.fit {cs gs : List Str} {d : Nat} {p : PyData} (h : Pr cs gs d p) : p.plain = true ∧ p.depth ≤ 2 * d + 1 := by
  induction h with
  | times a b _ ih =>
    obtain ⟨h1, h2⟩ := ih
    simp [PyData.plain, PyData.plainAll, PyData.depth, PyData.depthAll, h1]
    omega
  | only a _ ih =>
    obtain ⟨h1, h2⟩ := ih
    simp [PyData.plain, PyData.plainAll, PyData.depth, PyData.depthAll, h1]
    omega
  | @row d ps a b _ ih =>
    have k1 := plain_all fun p m => (ih p m).1
    have k2 := depth_all fun p m => (ih p m).2
    simp [PyData.plain, PyData.plainAll, PyData.depth, PyData.depthAll, k1]
    omega
  | call a => simp [PyData.plain, PyData.plainAll, PyData.depth, PyData.depthAll]
  | turn a => simp [PyData.plain, PyData.plainAll, PyData.depth, PyData.depthAll]
theorem cut1 (a : PyData) (r : List PyData) : cutG (a :: r) (some 1) none = r := by
  have := HT.sIx_nat (a :: r).length 0 1
  simp only [cutG, HT.sIx_none]
  rw [show (1 : Int) = ((1 : Nat) : Int) from rfl, this]
  simp
def TURNS : List PyData := [.str "left", .str "right", .str "about", .str "step", .str "back"]
theorem f_tu : fit (.tuple [.str "left", .str "right", .str "about", .str "step", .str "back"]) = true := by decide
theorem m_tu (w : Str) : memD (.str w) [.str "left", .str "right", .str "about", .str "step", .str "back"] = decide (w ∈ (["left", "right", "about", "step", "back"] : List Str)) := memD_str w ["left", "right", "about", "step", "back"]
theorem f_to : fit (.tuple [.str "times", .str "only"]) = true := by decide
theorem m_to (w : Str) : memD (.str w) [.str "times", .str "only"] = decide (w ∈ (["times", "only"] : List Str)) := memD_str w ["times", "only"]
def deepP (w : Str) : Int := if w = "row" then 2 else 1
section
variable (d : Nat) (S G : PyData) (lvl : Int) (q : PyData → List Slot → Prop) (e : Ex → List Slot → Prop)
theorem p_turn (t : Str) (h : t ∈ (["left", "right", "about"] : List Str)) : callD T (d + 2) 3 [.v (pturn t), .v S, .v G, .v (.int lvl)] q e = q (.bool (decide (lvl ≤ 6))) [.v (pturn t), .v S, .v G, .v (.int lvl)] := by
  rw [callD_s (fi := Fis_program) rfl, Fis_program, runF_code]
  have n1 : t ≠ "row" := by rintro rfl; simp at h; revert h; decide
  have n2 : t ≠ "call" := by rintro rfl; simp at h; revert h; decide
  have n3 : memD (.str t) [.str "left", .str "right", .str "about", .str "step", .str "back"] = true := by
    have := memD_str t ["left", "right", "about", "step", "back"]
    simp only [List.map_cons, List.map_nil] at this
    rw [this]
    simp at h
    simp
    rcases h with rfl | rfl | rfl <;> simp
  have f : fit (.tuple [.str "left", .str "right", .str "about", .str "step", .str "back"]) = true := by decide
  simp (config := { decide := true }) [-primD, atc, fit_s, fit_i, eqv_str, eqv_i, n1]
  rw [callD_s (fi := Fis_single) rfl, Fis_single, runF_code]
  simp (config := { decide := true }) [-primD, atc, fit_s, fit_i, eqv_str, eqv_i, n1, n2, n3, f]
  rw [cut1]
  by_cases hl : 6 < lvl
  · have : ¬ lvl ≤ 6 := by omega
    simp [hl, this]
  · have : lvl ≤ 6 := by omega
    simp [hl, this]
theorem p_call (c : Str) (cs : List Str) : callD T (d + 2) 3 [.v (pcall c), .v (strL cs), .v G, .v (.int lvl)] q e = q (.bool (decide (lvl ≤ 6) && decide (c ∈ cs))) [.v (pcall c), .v (strL cs), .v G, .v (.int lvl)] := by
  rw [callD_s (fi := Fis_program) rfl, Fis_program, runF_code]
  have f := fit_strL cs
  unfold strL at f ⊢
  simp (config := { decide := true }) [-primD, atc, fit_s, fit_i, eqv_str, eqv_i]
  rw [callD_s (fi := Fis_single) rfl, Fis_single, runF_code]
  simp (config := { decide := true }) [-primD, atc, fit_s, fit_i, eqv_str, eqv_i, cut1, f, memD_str]
  by_cases hl : 6 < lvl
  · have : ¬ lvl ≤ 6 := by omega
    simp [hl, this]
  · have : lvl ≤ 6 := by omega
    simp [hl, this]
theorem p_times (n : Int) (h1 : 1 ≤ n) (h2 : n ≤ 20) (w : Str) (p : PyData) (h : Hd w p) : callD T (d + 2) 3 [.v (ptimes n p), .v S, .v G, .v (.int lvl)] q e =
    if lvl ≤ 6 then callD T d 3 [.v p, .v S, .v G, .v (.int (lvl + deepP w))] (fun r _ => q r [.v (ptimes n p), .v S, .v G, .v (.int lvl)]) (fun x _ => e x [.v (ptimes n p), .v S, .v G, .v (.int lvl)]) else q (.bool false) [.v (ptimes n p), .v S, .v G, .v (.int lvl)] := by
  obtain ⟨r, rfl⟩ := h
  rw [callD_s (fi := Fis_program) rfl, Fis_program, runF_code]
  simp (config := { decide := true }) [-primD, atc, fit_s, fit_i, eqv_str, eqv_i]
  rw [callD_s (fi := Fis_single) rfl, Fis_single, runF_code]
  simp (config := { decide := true }) [-primD, atc, at20, at21, fit_s, fit_i, eqv_str, eqv_i, cut1, f_tu, m_tu, f_to, m_to, h1, h2]
  by_cases hl : 6 < lvl
  · have : ¬ lvl ≤ 6 := by omega
    simp [hl, this]
  · have : lvl ≤ 6 := by omega
    by_cases hw : w = "row" <;> simp [hl, this, hw, deepP]
theorem p_only (g : Str) (gs : List Str) (hg : g ∈ gs) (w : Str) (p : PyData) (h : Hd w p) : callD T (d + 2) 3 [.v (ponly g p), .v S, .v (strL gs), .v (.int lvl)] q e =
    if lvl ≤ 6 then callD T d 3 [.v p, .v S, .v (strL gs), .v (.int (lvl + deepP w))] (fun r _ => q r [.v (ponly g p), .v S, .v (strL gs), .v (.int lvl)]) (fun x _ => e x [.v (ponly g p), .v S, .v (strL gs), .v (.int lvl)]) else q (.bool false) [.v (ponly g p), .v S, .v (strL gs), .v (.int lvl)] := by
  obtain ⟨r, rfl⟩ := h
  have f := fit_strL gs
  unfold strL at f ⊢
  rw [callD_s (fi := Fis_program) rfl, Fis_program, runF_code]
  simp (config := { decide := true }) [-primD, atc, fit_s, fit_i, eqv_str, eqv_i]
  rw [callD_s (fi := Fis_single) rfl, Fis_single, runF_code]
  simp (config := { decide := true }) [-primD, atc, at20, at21, fit_s, fit_i, eqv_str, eqv_i, cut1, f_tu, m_tu, f_to, m_to, f, memD_str, hg]
  by_cases hl : 6 < lvl
  · have : ¬ lvl ≤ 6 := by omega
    simp [hl, this]
  · have : lvl ≤ 6 := by omega
    by_cases hw : w = "row" <;> simp [hl, this, hw, deepP]
def isTup : PyData → Bool
  | .tuple _ => true
  | _ => false
/-- how an item of a row looks -/
def RowIt (w : Option Str) (p : PyData) : Prop := match w with
  | some w => Hd w p
  | none => isaD 0 p = false
def deepR : Option Str → Int
  | some w => if w = "row" then 1 else 0
  | none => 0
theorem b_row (C : Orc) (V : Slot) (A : Slot) (w : Option Str) (p : PyData) (h : RowIt w p) (b : Bool) (Q : Fl → Prop) (E : Ex → Env → Prop)
    (hb : ∀ q e, C 3 [.v p, .v S, .v G, .v (.int (lvl + deepR w))] q e = q (.bool b) [.v p, .v S, .v G, .v (.int (lvl + deepR w))]) :
    evSs C Bis_row_1 [V, .v S, .v G, .v (.int lvl), .v p, A] Q E = if b = true then Q (.nx [V, .v S, .v G, .v (.int lvl), .v p, .v (.int (deepR w))]) else Q (.rt (.bool false) [V, .v S, .v G, .v (.int lvl), .v p, .v (.int (deepR w))]) := by
  cases w with
  | none =>
    have h : isaD 0 p = false := h
    simp only [deepR, Int.add_zero] at hb
    simp (config := { decide := true }) [-primD, Bis_row_1, h, hb]
    cases b <;> simp [deepR]
  | some w =>
    obtain ⟨r, rfl⟩ : Hd w p := h
    by_cases hw : w = "row"
    · simp only [deepR, if_pos hw] at hb
      simp (config := { decide := true }) [-primD, Bis_row_1, atc, fit_s, fit_i, eqv_str, eqv_i, hw]
      rw [← hw, hb]
      cases b <;> simp [deepR, hw]
    · simp only [deepR, if_neg hw] at hb
      simp (config := { decide := true }) [-primD, Bis_row_1, atc, fit_s, fit_i, eqv_str, eqv_i, hw]
      rw [Int.add_zero] at hb
      rw [hb]
      cases b <;> simp [deepR, hw]
theorem row_loop (C : Orc) (V : Slot) (b : PyData → Bool) (E : Ex → Env → Prop) (Q : Fl → Prop) (hQ : ∀ A B, Q (.rt (.bool false) [V, .v S, .v G, .v (.int lvl), A, B]) = Q (.rt (.bool false) [V, .v S, .v G, .v (.int lvl), .un, .un])) :
    ∀ (ps : List PyData) (hp : ∀ p ∈ ps, ∃ w, RowIt w p ∧ ∀ q e, C 3 [.v p, .v S, .v G, .v (.int (lvl + deepR w))] q e = q (.bool (b p)) [.v p, .v S, .v G, .v (.int (lvl + deepR w))]),
    forL (.nm 4) [4, 5] (fun ρ1 q => evSs C Bis_row_1 ρ1 q E) ps [V, .v S, .v G, .v (.int lvl), .un, .un] Q = if ps.all b = true then Q (.nx [V, .v S, .v G, .v (.int lvl), .un, .un]) else Q (.rt (.bool false) [V, .v S, .v G, .v (.int lvl), .un, .un]) := by
  intro ps
  induction ps with
  | nil => intro _; rfl
  | cons p ps ih =>
    intro hp
    obtain ⟨w, hw, hb⟩ := hp p List.mem_cons_self
    rw [forL]
    simp only [setTg, List.set_cons_succ, List.set_cons_zero]
    rw [b_row S G lvl C V _ w p hw (b p) _ _ hb, List.all_cons]
    by_cases hbp : b p = true
    · rw [if_pos hbp, hbp, Bool.true_and]
      simp only [turnK_n, wipeE, List.set_cons_succ, List.set_cons_zero]
      exact ih (fun p m => hp p (List.mem_cons_of_mem _ m))
    · rw [if_neg hbp, if_neg (by simp [hbp])]
      simp only [turnK_r]
      exact hQ _ _
theorem p_row (ps : List PyData) (n1 : 2 ≤ ps.length) (n2 : ps.length ≤ 12) (b : PyData → Bool) (hp : ∀ p ∈ ps, ∃ w, RowIt w p ∧ ∀ q e, callD T d 3 [.v p, .v S, .v G, .v (.int (lvl + deepR w))] q e = q (.bool (b p)) [.v p, .v S, .v G, .v (.int (lvl + deepR w))]) :
    callD T (d + 2) 3 [.v (prow ps), .v S, .v G, .v (.int lvl)] q e = q (.bool (decide (lvl ≤ 6) && ps.all b)) [.v (prow ps), .v S, .v G, .v (.int lvl)] := by
  rw [callD_s (fi := Fis_program) rfl, Fis_program, runF_code]
  simp (config := { decide := true }) [-primD, atc, fit_s, fit_i, eqv_str, eqv_i]
  by_cases hl : 6 < lvl
  · have : ¬ lvl ≤ 6 := by omega
    simp [hl, this]
  rw [if_neg hl]
  rw [callD_s (fi := Fis_row) rfl, Fis_row, runF_code]
  have m1 : (2 : Int) ≤ ps.length := by omega
  have m2 : (ps.length : Int) ≤ 12 := by omega
  have m3 : lvl ≤ 6 := by omega
  simp (config := { decide := true }) only [evSs, evS, evE, evI, slotV_v, ixD_t, at21, List.length_cons, List.length_nil]
  simp (config := { decide := true }) [-primD, at21, fit_s, fit_i, eqv_str, eqv_i, m1, m2]
  rw [row_loop S G lvl _ _ b _ _ (fun A B => rfl) ps hp]
  simp [m3]
  cases h : ps.all b
  · rw [if_neg (by simpa using h)]
  · rw [if_pos (by simpa using h)]
end
end Pv
set_option linter.all false
set_option maxRecDepth 100000
set_option maxHeartbeats 4000000
namespace Pv
open PySem PySem.W
theorem Hd.of {w : Str} {p : PyData} (h : Hd w p) : isaD 0 p = true := by obtain ⟨r, rfl⟩ := h; rfl
theorem deepP_le (w : Str) : 0 ≤ deepP w ∧ deepP w ≤ 2 := by unfold deepP; split <;> omega
theorem deepR_le (w : Option Str) : 0 ≤ deepR w ∧ deepR w ≤ 1 := by cases w with | none => decide | some w => unfold deepR; dsimp only; split <;> omega
theorem c_prog (cs gs : List Str) {n : Nat} {p : PyData} (h : Pr cs gs n p) : ∀ d, 2 * n + 2 ≤ d → ∀ lvl : Int, lvl + 2 * n ≤ 6 → ∀ q e, callD T d 3 [.v p, .v (strL cs), .v (strL gs), .v (.int lvl)] q e = q (.bool true) [.v p, .v (strL cs), .v (strL gs), .v (.int lvl)] := by
  induction h with
  | @times n k p a b hp ih =>
    intro d hd lvl hl q e
    obtain ⟨d, rfl⟩ : ∃ d', d = d' + 2 := ⟨d - 2, by omega⟩
    obtain ⟨w, hw⟩ := hp.hd
    have := deepP_le w
    rw [p_times d _ _ lvl q e k a (by omega) w p hw, if_pos (by omega), ih d (by omega) _ (by omega)]
  | @only n g p a hp ih =>
    intro d hd lvl hl q e
    obtain ⟨d, rfl⟩ : ∃ d', d = d' + 2 := ⟨d - 2, by omega⟩
    obtain ⟨w, hw⟩ := hp.hd
    have := deepP_le w
    rw [p_only d _ lvl q e g gs a w p hw, if_pos (by omega), ih d (by omega) _ (by omega)]
  | @row n ps a b hp ih =>
    intro d hd lvl hl q e
    obtain ⟨d, rfl⟩ : ∃ d', d = d' + 2 := ⟨d - 2, by omega⟩
    rw [p_row d _ _ lvl q e ps a (by omega) (fun _ => true) fun p m => ?_]
    · have : lvl ≤ 6 := by omega
      rw [decide_eq_true this, List.all_eq_true.mpr (fun _ _ => rfl)]
      rfl
    · obtain ⟨w, hw⟩ := (hp p m).hd
      have := deepR_le (some w)
      exact ⟨some w, hw, fun q e => ih p m d (by omega) _ (by omega) q e⟩
  | @call n c a =>
    intro d hd lvl hl q e
    obtain ⟨d, rfl⟩ : ∃ d', d = d' + 2 := ⟨d - 2, by omega⟩
    have : lvl ≤ 6 := by omega
    rw [p_call d _ lvl q e c cs]
    simp [this, a]
  | @turn n t a =>
    intro d hd lvl hl q e
    obtain ⟨d, rfl⟩ : ∃ d', d = d' + 2 := ⟨d - 2, by omega⟩
    have : lvl ≤ 6 := by omega
    rw [p_turn d _ _ lvl q e t a]
    simp [this]
/-- at any level an answer -/
theorem c_any (cs gs : List Str) {n : Nat} {p : PyData} (h : Pr cs gs n p) : ∀ d, 2 * n + 2 ≤ d → ∀ lvl : Int, ∃ b, ∀ q e, callD T d 3 [.v p, .v (strL cs), .v (strL gs), .v (.int lvl)] q e = q (.bool b) [.v p, .v (strL cs), .v (strL gs), .v (.int lvl)] := by
  induction h with
  | @times n k p a b hp ih =>
    intro d hd lvl
    obtain ⟨d, rfl⟩ : ∃ d', d = d' + 2 := ⟨d - 2, by omega⟩
    obtain ⟨w, hw⟩ := hp.hd
    obtain ⟨b', hb⟩ := ih d (by omega) (lvl + deepP w)
    refine ⟨decide (lvl ≤ 6) && b', fun q e => ?_⟩
    rw [p_times d _ _ lvl q e k a (by omega) w p hw, hb]
    by_cases h : lvl ≤ 6 <;> simp [h]
  | @only n g p a hp ih =>
    intro d hd lvl
    obtain ⟨d, rfl⟩ : ∃ d', d = d' + 2 := ⟨d - 2, by omega⟩
    obtain ⟨w, hw⟩ := hp.hd
    obtain ⟨b', hb⟩ := ih d (by omega) (lvl + deepP w)
    refine ⟨decide (lvl ≤ 6) && b', fun q e => ?_⟩
    rw [p_only d _ lvl q e g gs a w p hw, hb]
    by_cases h : lvl ≤ 6 <;> simp [h]
  | @row n ps a b hp ih =>
    intro d hd lvl
    obtain ⟨d, rfl⟩ : ∃ d', d = d' + 2 := ⟨d - 2, by omega⟩
    have key : ∀ p, ∃ b : Bool, p ∈ ps → ∃ w, RowIt w p ∧ ∀ q e, callD T d 3 [.v p, .v (strL cs), .v (strL gs), .v (.int (lvl + deepR w))] q e = q (.bool b) [.v p, .v (strL cs), .v (strL gs), .v (.int (lvl + deepR w))] := fun p => by
      by_cases m : p ∈ ps
      · obtain ⟨w, hw⟩ := (hp p m).hd
        obtain ⟨b', hb⟩ := ih p m d (by omega) (lvl + deepR (some w))
        exact ⟨b', fun _ => ⟨some w, hw, hb⟩⟩
      · exact ⟨true, fun z => absurd z m⟩
    refine ⟨decide (lvl ≤ 6) && ps.all fun p => Classical.choose (key p), fun q e => ?_⟩
    exact p_row d _ _ lvl q e ps a (by omega) (fun p => Classical.choose (key p)) fun p m => Classical.choose_spec (key p) m
  | @call n c a =>
    intro d hd lvl
    obtain ⟨d, rfl⟩ : ∃ d', d = d' + 2 := ⟨d - 2, by omega⟩
    exact ⟨_, fun q e => p_call d _ lvl q e c cs⟩
  | @turn n t a =>
    intro d hd lvl
    obtain ⟨d, rfl⟩ : ∃ d', d = d' + 2 := ⟨d - 2, by omega⟩
    exact ⟨_, fun q e => p_turn d _ _ lvl q e t a⟩
/-- what is no tuple -/
theorem p_non (d : Nat) (v S G : PyData) (lvl : Int) (h : isaD 0 v = false) (q e) : callD T (d + 1) 3 [.v v, .v S, .v G, .v (.int lvl)] q e = q (.bool false) [.v v, .v S, .v G, .v (.int lvl)] := by
  rw [callD_s (fi := Fis_program) rfl, Fis_program, runF_code]
  simp [-primD, h]
theorem dR_left : deepR (some "left") = 0 := by decide
theorem dR_right : deepR (some "right") = 0 := by decide
theorem dR_row : deepR (some "row") = 1 := by decide
theorem dP_row : deepP "row" = 2 := by decide
/-- repeated -/
def chain : Nat → PyData
  | 0 => pturn "left"
  | n + 1 => ptimes 1 (chain n)
theorem chain_hd : ∀ n, ∃ w, Hd w (chain n) ∧ w ≠ "row"
  | 0 => ⟨"left", ⟨_, rfl⟩, by decide⟩
  | n + 1 => ⟨"times", ⟨_, rfl⟩, by decide⟩
theorem c_chain (S G : PyData) : ∀ (n d : Nat), 2 * n + 2 ≤ d → ∀ lvl : Int, ∀ q e, callD T d 3 [.v (chain n), .v S, .v G, .v (.int lvl)] q e = q (.bool (decide (lvl + n ≤ 6))) [.v (chain n), .v S, .v G, .v (.int lvl)]
  | 0, d, hd, lvl, q, e => by
    obtain ⟨d, rfl⟩ : ∃ d', d = d' + 2 := ⟨d - 2, by omega⟩
    rw [chain, p_turn d _ _ lvl q e "left" (by decide)]
    simp
  | n + 1, d, hd, lvl, q, e => by
    obtain ⟨d, rfl⟩ : ∃ d', d = d' + 2 := ⟨d - 2, by omega⟩
    obtain ⟨w, hw, nw⟩ := chain_hd n
    rw [chain, p_times d _ _ lvl q e 1 (by omega) (by omega) w _ hw]
    have e1 : deepP w = 1 := if_neg nw
    rw [e1, c_chain S G n d (by omega)]
    by_cases h : lvl ≤ 6
    · rw [if_pos h]
      have : (lvl + 1 + (n : Int) ≤ 6) = (lvl + ((n + 1 : Nat) : Int) ≤ 6) := propext (by omega)
      rw [decide_eq_decide.mpr (iff_of_eq this)]
    · rw [if_neg h, decide_eq_false (by omega)]
/-- rows in rows -/
abbrev rows1 : PyData := prow [pturn "left", pturn "right"]
abbrev rows2 : PyData := prow [pturn "left", rows1]
abbrev rows3 : PyData := prow [pturn "left", rows2]
section
variable (S G : PyData) (d : Nat) (lvl : Int) (q : PyData → List Slot → Prop) (e : Ex → List Slot → Prop)
theorem p_row_t (ps : List PyData) (n1 : 2 ≤ ps.length) (n2 : ps.length ≤ 12) (hp : ∀ p ∈ ps, ∃ w, RowIt w p ∧ ∀ q e, callD T d 3 [.v p, .v S, .v G, .v (.int (lvl + deepR w))] q e = q (.bool true) [.v p, .v S, .v G, .v (.int (lvl + deepR w))]) :
    callD T (d + 2) 3 [.v (prow ps), .v S, .v G, .v (.int lvl)] q e = q (.bool (decide (lvl ≤ 6))) [.v (prow ps), .v S, .v G, .v (.int lvl)] := by
  rw [p_row d S G lvl q e ps n1 n2 (fun _ => true) hp, List.all_eq_true.mpr (fun _ _ => rfl), Bool.and_true]
theorem c_rows1 : callD T (d + 4) 3 [.v rows1, .v S, .v G, .v (.int lvl)] q e = q (.bool (decide (lvl ≤ 6))) [.v rows1, .v S, .v G, .v (.int lvl)] := by
  by_cases h : lvl ≤ 6
  · refine p_row_t S G (d + 2) lvl q e [pturn "left", pturn "right"] (by simp) (by simp) fun p m => ?_
    have m : p = pturn "left" ∨ p = pturn "right" := by simpa using m
    rcases m with rfl | rfl
    · exact ⟨some "left", ⟨_, rfl⟩, fun q e => by rw [p_turn d _ _ _ q e "left" (by decide), dR_left, decide_eq_true (by omega)]⟩
    · exact ⟨some "right", ⟨_, rfl⟩, fun q e => by rw [p_turn d _ _ _ q e "right" (by decide), dR_right, decide_eq_true (by omega)]⟩
  · rw [p_row (d + 2) S G lvl q e [pturn "left", pturn "right"] (by simp) (by simp) (fun _ => false) fun p m => ?_]
    · rw [decide_eq_false h]; rfl
    · have m : p = pturn "left" ∨ p = pturn "right" := by simpa using m
      rcases m with rfl | rfl
      · exact ⟨some "left", ⟨_, rfl⟩, fun q e => by rw [p_turn d _ _ _ q e "left" (by decide), dR_left, decide_eq_false (by omega)]⟩
      · exact ⟨some "right", ⟨_, rfl⟩, fun q e => by rw [p_turn d _ _ _ q e "right" (by decide), dR_right, decide_eq_false (by omega)]⟩
def isRowD : PyData → Bool
  | .tuple (.str w :: _) => decide (w = "row")
  | _ => false
/-- two in a row, the second a row -/
theorem p_row2 (r : List PyData) (b : Bool) (h0 : lvl ≤ 6) (h : ∀ q e, callD T (d + 2) 3 [.v (prow r), .v S, .v G, .v (.int (lvl + 1))] q e = q (.bool b) [.v (prow r), .v S, .v G, .v (.int (lvl + 1))]) :
    callD T (d + 4) 3 [.v (prow [pturn "left", prow r]), .v S, .v G, .v (.int lvl)] q e = q (.bool b) [.v (prow [pturn "left", prow r]), .v S, .v G, .v (.int lvl)] := by
  rw [p_row (d + 2) S G lvl q e [pturn "left", prow r] (by simp) (by simp) (fun p => if isRowD p = true then b else true) fun p m => ?_]
  · have e1 : isRowD (pturn "left") = false := by decide
    have e2 : isRowD (prow r) = true := by simp (config := { decide := true }) [isRowD]
    simp only [List.all_cons, List.all_nil, e1, e2, decide_eq_true h0]
    simp
  · have m : p = pturn "left" ∨ p = prow r := by simpa using m
    rcases m with rfl | rfl
    · exact ⟨some "left", ⟨_, rfl⟩, fun q e => by rw [p_turn d _ _ _ q e "left" (by decide), dR_left, decide_eq_true (by omega)]; rfl⟩
    · exact ⟨some "row", ⟨_, rfl⟩, fun q e => by rw [dR_row, h]; simp (config := { decide := true }) [isRowD]⟩
theorem c_rows3 (b : Bool) (l : lvl = 4 ∧ b = true ∨ lvl = 5 ∧ b = false) : callD T (d + 8) 3 [.v rows3, .v S, .v G, .v (.int lvl)] q e = q (.bool b) [.v rows3, .v S, .v G, .v (.int lvl)] := by
  refine p_row2 S G (d + 4) lvl q e _ b (by omega) fun q e => ?_
  refine p_row2 S G (d + 2) (lvl + 1) q e _ b (by omega) fun q e => ?_
  rw [c_rows1 S G d]
  rcases l with ⟨rfl, rfl⟩ | ⟨rfl, rfl⟩ <;> rfl
theorem c_trow (ts : List PyData) (n1 : 2 ≤ ts.length) (n2 : ts.length ≤ 12) (hp : ∀ p ∈ ts, p = pturn "left") : callD T (d + 6) 3 [.v (ptimes 1 (prow ts)), .v S, .v G, .v (.int 5)] q e = q (.bool false) [.v (ptimes 1 (prow ts)), .v S, .v G, .v (.int 5)] := by
  rw [p_times (d + 4) S G 5 q e 1 (by omega) (by omega) "row" (prow ts) ⟨_, rfl⟩, if_pos (by omega), dP_row]
  rw [p_row (d + 2) S G (5 + 2) _ _ ts n1 n2 (fun _ => false) fun p m => ?_]
  · rw [decide_eq_false (by omega)]; rfl
  · obtain rfl := hp p m
    exact ⟨some "left", ⟨_, rfl⟩, fun q e => by rw [p_turn d _ _ _ q e "left" (by decide), dR_left, decide_eq_false (by omega)]⟩
end
end Pv
set_option linter.all false
set_option maxRecDepth 100000
set_option maxHeartbeats 4000000
namespace Pv
open PySem PySem.W
def pairT (c : Str × PyData) : PyData := .tuple [.str c.1, c.2]
abbrev dnc (A : PyData) (gl : List (Str × PyData)) (S : PyData) (cl : List (Str × PyData)) (st : PyData) : PyData := .tuple [.str "dance", A, .tuple (gl.map pairT), S, .tuple (cl.map pairT), st]
theorem at62 (a b c d e f : PyData) : L2.atI [a, b, c, d, e, f] 2 = some c := rfl
theorem at63 (a b c d e f : PyData) : L2.atI [a, b, c, d, e, f] 3 = some d := rfl
theorem at64 (a b c d e f : PyData) : L2.atI [a, b, c, d, e, f] 4 = some e := rfl
theorem at65 (a b c d e f : PyData) : L2.atI [a, b, c, d, e, f] 5 = some f := rfl
theorem at61 (a b c d e f : PyData) : L2.atI [a, b, c, d, e, f] 1 = some b := rfl
theorem pairsD_map (k : List (Str × PyData) → Prop) : ∀ l : List (Str × PyData), pairsD (l.map pairT) k = k l := by
  intro l
  induction l generalizing k with
  | nil => rfl
  | cons a l ih => exact ih (fun l => k (a :: l))
theorem cmpF_fil {F : PyData → (List PyData → Prop) → Prop} (t : PyData → Bool) : ∀ {l : List PyData}, (∀ a ∈ l, ∀ k, F a k = if t a = true then k [a] else k []) → ∀ p, cmpF F l p = p (l.filter t)
  | [], _, p => rfl
  | a :: l, h, p => by
    rw [cmpF, h a List.mem_cons_self]
    rw [cmpF_fil t (l := l) fun b hb => h b (List.mem_cons_of_mem _ hb), cmpF_fil t (l := l) fun b hb => h b (List.mem_cons_of_mem _ hb)]
    cases e : t a <;> simp [e]
/-- the names of pairs, by a comprehension -/
theorem names_F {F : PyData → (List PyData → Prop) → Prop} (l : List (Str × PyData)) (p : List PyData → Prop) (h : ∀ a ∈ l, ∀ k, F (pairT a) k = k [.str a.1]) : cmpF F (l.map pairT) p = p ((l.map (·.1)).map .str) := by
  rw [cmpF_map pairT (fun a => .str a.1) h, List.map_map]
  rfl
theorem getD_mem : ∀ {l : List (Str × PyData)} {x : Str} {t : PyData}, (l.map (·.1)).Nodup → (x, t) ∈ l → getD (encP l) x = some t
  | a :: l, x, t, nd, m => by
    rw [List.map_cons, List.nodup_cons] at nd
    rcases List.mem_cons.mp m with rfl | m
    · simp [encP, getD]
    · have ne : a.1 ≠ x := fun z => nd.1 (z ▸ List.mem_map.mpr ⟨_, m, rfl⟩)
      have := getD_mem nd.2 m
      simp [encP, getD, ne] at this ⊢
      exact this
section
variable (A : PyData) (gl : List (Str × PyData)) (S : PyData) (cl : List (Str × PyData)) (st : PyData)
/-- the four functions agree at a program -/
def Res (p : PyData) (N : Nat) : Prop := ∃ (v : Int) (b : Bool), ∀ d, N ≤ d → ∀ q e, callD T d 13 [.v (dnc A gl S cl st), .v p] q e = q (.int v) [.v (dnc A gl S cl st), .v p] ∧ callD T d 21 [.v (dnc A gl S cl st), .v p] q e = q (.int v) [.v (dnc A gl S cl st), .v p] ∧
  callD T d 14 [.v (dnc A gl S cl st), .v p] q e = q (.bool b) [.v (dnc A gl S cl st), .v p] ∧ callD T d 22 [.v (dnc A gl S cl st), .v p] q e = q (.bool b) [.v (dnc A gl S cl st), .v p]
theorem Res.up {p : PyData} {N M : Nat} (h : Res A gl S cl st p N) (z : N ≤ M) : Res A gl S cl st p M := by
  obtain ⟨v, b, k⟩ := h
  exact ⟨v, b, fun d hd => k d (by omega)⟩
theorem res_turn (t : Str) (h : t ∈ (["left", "right", "about"] : List Str)) : Res A gl S cl st (pturn t) 1 := by
  refine ⟨1, true, fun d hd q e => ?_⟩
  obtain ⟨d, rfl⟩ : ∃ d', d = d' + 1 := ⟨d - 1, by omega⟩
  have m : t = "left" ∨ t = "right" ∨ t = "about" := by simpa using h
  refine ⟨?_, ?_, ?_, ?_⟩
  · rw [callD_s (fi := Fcount) rfl, Fcount, runF_code]
    rcases m with rfl | rfl | rfl <;> simp (config := { decide := true }) [-primD, atc, fit_s, eqv_str]
  · rw [callD_s (fi := F_law_count) rfl, F_law_count, runF_code]
    rcases m with rfl | rfl | rfl <;> simp (config := { decide := true }) [-primD, atc, fit_s, eqv_str, f_to, m_to]
  · rw [callD_s (fi := Fis_open) rfl, Fis_open, runF_code]
    rcases m with rfl | rfl | rfl <;> simp (config := { decide := true }) [-primD, atc, fit_s, eqv_str]
  · rw [callD_s (fi := F_law_open) rfl, F_law_open, runF_code]
    rcases m with rfl | rfl | rfl <;> simp (config := { decide := true }) [-primD, atc, fit_s, eqv_str]
theorem res_times {p : PyData} {N : Nat} (n : Int) (h1 : 1 ≤ n) (h2 : n ≤ 4) (h : Res A gl S cl st p N) : Res A gl S cl st (ptimes n p) (N + 1) := by
  obtain ⟨v, b, k⟩ := h
  refine ⟨n * v, b, fun d hd q e => ?_⟩
  obtain ⟨d, rfl⟩ : ∃ d', d = d' + 1 := ⟨d - 1, by omega⟩
  have k1 := fun q e => (k d (by omega) q e).1
  have k2 := fun q e => (k d (by omega) q e).2.1
  have k3 := fun q e => (k d (by omega) q e).2.2.1
  have k4 := fun q e => (k d (by omega) q e).2.2.2
  have m : L2.CMul n v := .inl ⟨by omega, by omega⟩
  refine ⟨?_, ?_, ?_, ?_⟩
  · rw [callD_s (fi := Fcount) rfl, Fcount, runF_code]
    simp (config := { decide := true }) [-primD, at0, at1, at2, fit_s, eqv_str, k1, m]
  · rw [callD_s (fi := F_law_count) rfl, F_law_count, runF_code]
    simp (config := { decide := true }) [-primD, at0, at1, at2, fit_s, eqv_str, f_to, m_to, k2, m]
  · rw [callD_s (fi := Fis_open) rfl, Fis_open, runF_code]
    simp (config := { decide := true }) [-primD, at0, at1, at2, fit_s, eqv_str, k3]
  · rw [callD_s (fi := F_law_open) rfl, F_law_open, runF_code]
    simp (config := { decide := true }) [-primD, at0, at1, at2, fit_s, eqv_str, k4]
theorem res_only {p : PyData} {N : Nat} (g : Str) (h : Res A gl S cl st p N) : Res A gl S cl st (ponly g p) (N + 1) := by
  obtain ⟨v, b, k⟩ := h
  refine ⟨v, false, fun d hd q e => ?_⟩
  obtain ⟨d, rfl⟩ : ∃ d', d = d' + 1 := ⟨d - 1, by omega⟩
  have k1 := fun q e => (k d (by omega) q e).1
  have k2 := fun q e => (k d (by omega) q e).2.1
  have m : L2.CMul 1 v := .inl ⟨by omega, by omega⟩
  refine ⟨?_, ?_, ?_, ?_⟩
  · rw [callD_s (fi := Fcount) rfl, Fcount, runF_code]
    simp (config := { decide := true }) [-primD, at0, at1, at2, fit_s, eqv_str, k1]
  · rw [callD_s (fi := F_law_count) rfl, F_law_count, runF_code]
    simp (config := { decide := true }) [-primD, at0, at1, at2, fit_s, eqv_str, f_to, m_to, k2, m]
  · rw [callD_s (fi := Fis_open) rfl, Fis_open, runF_code]
    simp (config := { decide := true }) [-primD, at0, at1, at2, fit_s, eqv_str]
  · rw [callD_s (fi := F_law_open) rfl, F_law_open, runF_code]
    simp (config := { decide := true }) [-primD, at0, at1, at2, fit_s, eqv_str]
theorem res_row {ps : List PyData} {N : Nat} (n : ps.length ≤ 1000) (h : ∀ p ∈ ps, Res A gl S cl st p N) : Res A gl S cl st (prow ps) (N + 1) := by
  have key : ∀ p, ∃ r : Int × Bool, p ∈ ps → ∀ d, N ≤ d → ∀ q e, callD T d 13 [.v (dnc A gl S cl st), .v p] q e = q (.int r.1) [.v (dnc A gl S cl st), .v p] ∧ callD T d 21 [.v (dnc A gl S cl st), .v p] q e = q (.int r.1) [.v (dnc A gl S cl st), .v p] ∧
      callD T d 14 [.v (dnc A gl S cl st), .v p] q e = q (.bool r.2) [.v (dnc A gl S cl st), .v p] ∧ callD T d 22 [.v (dnc A gl S cl st), .v p] q e = q (.bool r.2) [.v (dnc A gl S cl st), .v p] := fun p => by
    by_cases m : p ∈ ps
    · obtain ⟨v, b, k⟩ := h p m
      exact ⟨(v, b), fun _ => k⟩
    · exact ⟨(0, true), fun z => absurd z m⟩
  obtain ⟨R, hR⟩ : ∃ R : PyData → Int × Bool, ∀ p ∈ ps, ∀ d, N ≤ d → ∀ q e, callD T d 13 [.v (dnc A gl S cl st), .v p] q e = q (.int (R p).1) [.v (dnc A gl S cl st), .v p] ∧ callD T d 21 [.v (dnc A gl S cl st), .v p] q e = q (.int (R p).1) [.v (dnc A gl S cl st), .v p] ∧
      callD T d 14 [.v (dnc A gl S cl st), .v p] q e = q (.bool (R p).2) [.v (dnc A gl S cl st), .v p] ∧ callD T d 22 [.v (dnc A gl S cl st), .v p] q e = q (.bool (R p).2) [.v (dnc A gl S cl st), .v p] := ⟨fun p => Classical.choose (key p), fun p m => Classical.choose_spec (key p) m⟩
  refine ⟨(ps.map fun p => (R p).1).sum, ps.all fun p => (R p).2, fun d hd q e => ?_⟩
  obtain ⟨d, rfl⟩ : ∃ d', d = d' + 1 := ⟨d - 1, by omega⟩
  have a1 : (ps.map fun p => PyData.int (R p).1).all isIntT = true := by simp
  have a2 : ((ps.map fun p => PyData.int (R p).1).map toI) = ps.map fun p => (R p).1 := by rw [List.map_map]; rfl
  have a3 : (ps.map fun p => PyData.bool (R p).2).all isBoolD = true := by simp
  have a4 : (ps.map fun p => PyData.bool (R p).2).all isTrueD = ps.all fun p => (R p).2 := by rw [List.all_map]; rfl
  have a5 : PyData.eqv (.int ((ps.filter fun p => !(R p).2).length : Int)) (.int 0) = ps.all fun p => (R p).2 := by
    rw [eqv_i, Bool.eq_iff_iff, decide_eq_true_eq, List.all_eq_true]
    have : ((ps.filter fun p => !(R p).2).length : Int) = 0 ↔ (ps.filter fun p => !(R p).2) = [] := by
      rw [← List.length_eq_zero_iff]; omega
    rw [this, List.filter_eq_nil_iff]
    simp
  refine ⟨?_, ?_, ?_, ?_⟩
  · rw [callD_s (fi := Fcount) rfl, Fcount, runF_code]
    simp (config := { decide := true }) [-primD, at20, at21, fit_s, eqv_str]
    rw [cmpF_id (fun p => .int (R p).1) fun p m k => by rw [(hR p m d (by omega) _ _).1]]
    simp only [a2]
    exact and_iff_right (by simp)
  · rw [callD_s (fi := F_law_count) rfl, F_law_count, runF_code]
    simp (config := { decide := true }) [-primD, at20, at21, fit_s, eqv_str]
    rw [cmpF_id (fun p => .int (R p).1) fun p m k => by rw [(hR p m d (by omega) _ _).2.1]]
    simp only [a2]
    exact and_iff_right (by simp)
  · rw [callD_s (fi := Fis_open) rfl, Fis_open, runF_code]
    simp (config := { decide := true }) [-primD, at20, at21, fit_s, eqv_str]
    rw [cmpF_id (fun p => .bool (R p).2) fun p m k => by rw [(hR p m d (by omega) _ _).2.2.1]]
    rw [a4]
    exact and_iff_right (by simp)
  · rw [callD_s (fi := F_law_open) rfl, F_law_open, runF_code]
    simp (config := { decide := true }) [-primD, at20, at21, fit_s, eqv_str]
    rw [cmpF_fil (fun p => !(R p).2) fun p m k => by rw [(hR p m d (by omega) _ _).2.2.2]; simp]
    rw [a5]
    exact and_iff_right (fit_i _)
theorem res_on {c : Str} {s1 g : PyData} (nd : (cl.map (·.1)).Nodup) (m : (c, .tuple [.str "on", s1, g]) ∈ cl) : Res A gl S cl st (pcall c) 1 := by
  refine ⟨1, true, fun d hd q e => ?_⟩
  obtain ⟨d, rfl⟩ : ∃ d', d = d' + 1 := ⟨d - 1, by omega⟩
  have g0 := getD_mem nd m
  refine ⟨?_, ?_, ?_, ?_⟩
  · rw [callD_s (fi := Fcount) rfl, Fcount, runF_code]
    simp (config := { decide := true }) [-primD, at20, at21, at0, at64, fit_s, eqv_str, pairsD_map, nd, g0]
  · rw [callD_s (fi := F_law_count) rfl, F_law_count, runF_code]
    simp (config := { decide := true }) [-primD, at20, at21, at0, at64, fit_s, eqv_str, f_to, m_to, pairsD_map, nd, g0]
  · rw [callD_s (fi := Fis_open) rfl, Fis_open, runF_code]
    simp (config := { decide := true }) [-primD, at20, at21, at0, at64, fit_s, eqv_str, pairsD_map, nd, g0]
  · rw [callD_s (fi := F_law_open) rfl, F_law_open, runF_code]
    simp (config := { decide := true }) [-primD, at20, at21, at0, at64, fit_s, eqv_str, pairsD_map, nd, g0]
theorem res_as {c : Str} {p : PyData} {N : Nat} (nd : (cl.map (·.1)).Nodup) (m : (c, .tuple [.str "as", p]) ∈ cl) (h : Res A gl S cl st p N) : Res A gl S cl st (pcall c) (N + 1) := by
  obtain ⟨v, b, k⟩ := h
  refine ⟨1 + v, b, fun d hd q e => ?_⟩
  obtain ⟨d, rfl⟩ : ∃ d', d = d' + 1 := ⟨d - 1, by omega⟩
  have g0 := getD_mem nd m
  have k1 := fun q e => (k d (by omega) q e).1
  have k2 := fun q e => (k d (by omega) q e).2.1
  have k3 := fun q e => (k d (by omega) q e).2.2.1
  have k4 := fun q e => (k d (by omega) q e).2.2.2
  refine ⟨?_, ?_, ?_, ?_⟩
  · rw [callD_s (fi := Fcount) rfl, Fcount, runF_code]
    simp (config := { decide := true }) [-primD, at20, at21, at64, fit_s, eqv_str, pairsD_map, nd, g0, k1]
  · rw [callD_s (fi := F_law_count) rfl, F_law_count, runF_code]
    simp (config := { decide := true }) [-primD, at20, at21, at64, fit_s, eqv_str, f_to, m_to, pairsD_map, nd, g0, k2]
  · rw [callD_s (fi := Fis_open) rfl, Fis_open, runF_code]
    simp (config := { decide := true }) [-primD, at20, at21, at64, fit_s, eqv_str, pairsD_map, nd, g0, k3]
  · rw [callD_s (fi := F_law_open) rfl, F_law_open, runF_code]
    simp (config := { decide := true }) [-primD, at20, at21, at64, fit_s, eqv_str, pairsD_map, nd, g0, k4]
theorem res_pr {cs gs : List Str} {N : Nat} (N1 : 1 ≤ N) (hc : ∀ c ∈ cs, Res A gl S cl st (pcall c) N) {n : Nat} {p : PyData} (h : Pr cs gs n p) : Res A gl S cl st p (N + n) := by
  induction h with
  | times a b _ ih => exact res_times A gl S cl st _ a b ih
  | only a _ ih => exact res_only A gl S cl st _ ih
  | row a b _ ih => exact res_row A gl S cl st (by omega) ih
  | call a => exact (hc _ a).up _ _ _ _ _ (by omega)
  | turn a => exact (res_turn A gl S cl st _ a).up _ _ _ _ _ (by omega)
end
/-- the shapes of a drawn dance -/
def sh4 : List (Str × List Pl) := [("single", [⟨0, 0, 0⟩]), ("pair", [⟨0, 0, 0⟩, ⟨1, 0, 0⟩]), ("face", [⟨0, 0, 0⟩, ⟨0, 1, 2⟩]), ("tandem", [⟨0, 0, 0⟩, ⟨0, 1, 0⟩])]
/-- tables of calls as they are drawn: a call told by a program names earlier ones alone -/
inductive Wf (gs : List Str) : List (Str × PyData) → Prop
  | nil : Wf gs []
  | on {cl x s l g} : Wf gs cl → (s, l) ∈ sh4 → g.length = l.length → (∀ p ∈ g, OkP p) → Spots g → Wf gs (cl ++ [(x, .tuple [.str "on", .str s, pls g])])
  | as {cl x p} : Wf gs cl → Pr (cl.map (·.1)) gs 2 p → Wf gs (cl ++ [(x, .tuple [.str "as", p])])
theorem res_calls {gs : List Str} {cl : List (Str × PyData)} (h : Wf gs cl) (A : PyData) (gl : List (Str × PyData)) (S st : PyData) : ∀ cl2, (∃ r, cl2 = cl ++ r) → (cl2.map (·.1)).Nodup → ∀ c ∈ cl.map (·.1), Res A gl S cl2 st (pcall c) (3 * cl.length + 1) := by
  induction h with
  | nil => intro cl2 _ _ c m; cases m
  | @on cl x s l g _ _ _ _ _ ih =>
    rintro cl2 ⟨r, rfl⟩ nd c m
    rw [List.map_append, List.mem_append] at m
    rcases m with m | m
    · exact (ih _ ⟨_, List.append_assoc ..⟩ nd c m).up _ _ _ _ _ (by simp; omega)
    · obtain rfl : c = x := by simpa using m
      exact (res_on A gl S _ st (s1 := .str s) (g := pls g) nd (by simp)).up _ _ _ _ _ (by omega)
  | @as cl x p _ hp ih =>
    rintro cl2 ⟨r, rfl⟩ nd c m
    rw [List.map_append, List.mem_append] at m
    rcases m with m | m
    · exact (ih _ ⟨_, List.append_assoc ..⟩ nd c m).up _ _ _ _ _ (by simp; omega)
    · obtain rfl : c = x := by simpa using m
      have := res_pr A gl S _ st (by omega) (ih _ ⟨_, List.append_assoc ..⟩ nd) hp
      exact (res_as A gl S _ st (p := p) nd (by simp) this).up _ _ _ _ _ (by simp; omega)
/-! ### known -/
section
variable (A : PyData) (gl : List (Str × PyData)) (S : PyData) (cl : List (Str × PyData)) (st : PyData)
theorem fit_names (l : List (Str × PyData)) : fit (.list ((l.map (·.1)).map .str)) = true := fit_strL (l.map fun a : Str × PyData => a.1)
theorem c_known {n : Nat} {p : PyData} (h : Pr (cl.map (·.1)) (gl.map (·.1)) n p) : ∀ d, n + 1 ≤ d → ∀ q e, callD T d 12 [.v (dnc A gl S cl st), .v p] q e = q (.bool true) [.v (dnc A gl S cl st), .v p] := by
  induction h with
  | times a b _ ih =>
    intro d hd q e
    obtain ⟨d, rfl⟩ : ∃ d', d = d' + 1 := ⟨d - 1, by omega⟩
    rw [callD_s (fi := Fknown) rfl, Fknown, runF_code]
    simp (config := { decide := true }) [-primD, at0, at2, fit_s, eqv_str, ih d (by omega)]
  | @only n g p a _ ih =>
    intro d hd q e
    obtain ⟨d, rfl⟩ : ∃ d', d = d' + 1 := ⟨d - 1, by omega⟩
    rw [callD_s (fi := Fknown) rfl, Fknown, runF_code]
    simp (config := { decide := true }) [-primD, at0, at1, at2, at62, fit_s, eqv_str, ih d (by omega), -List.map_map]
    rw [names_F gl _ fun a _ k => by simp [pairT]]
    rw [memD_str, decide_eq_true a]
    simp [fit_names, fit_s, -List.map_map]
  | @row n ps a b _ ih =>
    intro d hd q e
    obtain ⟨d, rfl⟩ : ∃ d', d = d' + 1 := ⟨d - 1, by omega⟩
    rw [callD_s (fi := Fknown) rfl, Fknown, runF_code]
    simp (config := { decide := true }) [-primD, at20, at21, fit_s, eqv_str]
    rw [cmpF_id (fun p => .bool true) fun p m k => by rw [ih p m d (by omega)]]
    have : ((ps.map fun _ => PyData.bool true).all isTrueD) = true := by simp
    rw [this]
    exact and_iff_right (by simp)
  | @call n c a =>
    intro d hd q e
    obtain ⟨d, rfl⟩ : ∃ d', d = d' + 1 := ⟨d - 1, by omega⟩
    rw [callD_s (fi := Fknown) rfl, Fknown, runF_code]
    simp (config := { decide := true }) [-primD, at20, at21, at64, fit_s, eqv_str, -List.map_map]
    rw [names_F cl _ fun a _ k => by simp [pairT]]
    rw [memD_str, decide_eq_true a]
    simp [fit_names, fit_s, -List.map_map]
  | @turn n t a =>
    intro d hd q e
    obtain ⟨d, rfl⟩ : ∃ d', d = d' + 1 := ⟨d - 1, by omega⟩
    rw [callD_s (fi := Fknown) rfl, Fknown, runF_code]
    have m : t = "left" ∨ t = "right" ∨ t = "about" := by simpa using a
    rcases m with rfl | rfl | rfl <;> simp (config := { decide := true }) [-primD, at10, fit_s, eqv_str]
end
end Pv
set_option linter.all false
set_option maxRecDepth 100000
set_option maxHeartbeats 4000000
namespace Pv
open PySem PySem.W
section
variable (A : PyData) (gl : List (Str × PyData)) (S : PyData) (cl : List (Str × PyData)) (st : PyData)
theorem k_zoo (z : ("zoo" : Str) ∉ cl.map (·.1)) (d : Nat) (q e) : callD T (d + 1) 12 [.v (dnc A gl S cl st), .v (pcall "zoo")] q e = q (.bool false) [.v (dnc A gl S cl st), .v (pcall "zoo")] := by
  rw [callD_s (fi := Fknown) rfl, Fknown, runF_code]
  simp (config := { decide := true }) [-primD, at20, at21, at64, fit_s, eqv_str, -List.map_map]
  rw [names_F cl _ fun a _ k => by simp [pairT]]
  rw [memD_str, decide_eq_false z]
  simp [fit_names, fit_s, -List.map_map]
theorem k_bad1 (z : ("zoo" : Str) ∉ cl.map (·.1)) {n : Nat} {p : PyData} (h : Pr (cl.map (·.1)) (gl.map (·.1)) n p) (d : Nat) (hd : n + 1 ≤ d) (q e) : callD T (d + 1) 12 [.v (dnc A gl S cl st), .v (prow [p, pcall "zoo"])] q e = q (.bool false) [.v (dnc A gl S cl st), .v (prow [p, pcall "zoo"])] := by
  obtain ⟨d, rfl⟩ : ∃ d', d = d' + 1 := ⟨d - 1, by omega⟩
  have k1 := fun q e => c_known A gl S cl st h (d + 1) hd q e
  have k2 := fun q e => k_zoo A gl S cl st z d q e
  rw [callD_s (fi := Fknown) rfl, Fknown, runF_code]
  simp (config := { decide := true }) [-primD, at20, at21, fit_s, eqv_str, cmpF, k1, k2]
theorem k_bad2 (z : ("zoo" : Str) ∉ gl.map (·.1)) (p : PyData) (d : Nat) (q e) : callD T (d + 2) 12 [.v (dnc A gl S cl st), .v (ptimes 2 (ponly "zoo" p))] q e = q (.bool false) [.v (dnc A gl S cl st), .v (ptimes 2 (ponly "zoo" p))] := by
  rw [callD_s (fi := Fknown) rfl, Fknown, runF_code]
  simp (config := { decide := true }) [-primD, at0, at2, fit_s, eqv_str]
  rw [callD_s (fi := Fknown) rfl, Fknown, runF_code]
  simp (config := { decide := true }) [-primD, at0, at1, at2, at62, fit_s, eqv_str, -List.map_map]
  rw [names_F gl _ fun a _ k => by simp [pairT]]
  rw [memD_str, decide_eq_false z]
  simp [fit_names, fit_s, -List.map_map]
theorem c_names (d : Nat) (q e) : callD T (d + 1) 11 [.v (dnc A gl S cl st)] q e = q (strL (cl.map (·.1))) [.v (dnc A gl S cl st)] := by
  rw [callD_s (fi := Fnames_of) rfl, Fnames_of, runF_code]
  simp (config := { decide := true }) [-primD, at64, -List.map_map]
  rw [names_F cl _ fun a _ k => by simp [pairT]]
  rfl
end
theorem c_lknown (cs gs : List Str) {n : Nat} {p : PyData} (h : Pr cs gs n p) : ∀ d, n + 1 ≤ d → ∀ q e, callD T d 20 [.v p, .v (strL cs), .v (strL gs)] q e = q (.bool true) [.v p, .v (strL cs), .v (strL gs)] := by
  have f1 : fit (.list (cs.map .str)) = true := fit_strL cs
  have f2 : fit (.list (gs.map .str)) = true := fit_strL gs
  induction h with
  | times a b _ ih =>
    intro d hd q e
    obtain ⟨d, rfl⟩ : ∃ d', d = d' + 1 := ⟨d - 1, by omega⟩
    rw [callD_s (fi := F_law_known) rfl, F_law_known, runF_code]
    simp (config := { decide := true }) [-primD, at0, at2, fit_s, eqv_str, ih d (by omega)]
  | @only n g p a _ ih =>
    intro d hd q e
    obtain ⟨d, rfl⟩ : ∃ d', d = d' + 1 := ⟨d - 1, by omega⟩
    rw [callD_s (fi := F_law_known) rfl, F_law_known, runF_code]
    simp (config := { decide := true }) [-primD, at0, at1, at2, fit_s, eqv_str, ih d (by omega)]
    simp [strL, memD_str, a, f2, fit_s]
  | @row n ps a b _ ih =>
    intro d hd q e
    obtain ⟨d, rfl⟩ : ∃ d', d = d' + 1 := ⟨d - 1, by omega⟩
    rw [callD_s (fi := F_law_known) rfl, F_law_known, runF_code]
    simp (config := { decide := true }) [-primD, at20, at21, fit_s, eqv_str]
    rw [cmpF_none fun p m k => by rw [ih p m d (by omega)]; simp]
    simp [eqv_i, fit_i]
  | @call n c a =>
    intro d hd q e
    obtain ⟨d, rfl⟩ : ∃ d', d = d' + 1 := ⟨d - 1, by omega⟩
    rw [callD_s (fi := F_law_known) rfl, F_law_known, runF_code]
    simp (config := { decide := true }) [-primD, at20, at21, fit_s, eqv_str]
    simp [strL, memD_str, a, f1, fit_s]
  | @turn n t a =>
    intro d hd q e
    obtain ⟨d, rfl⟩ : ∃ d', d = d' + 1 := ⟨d - 1, by omega⟩
    rw [callD_s (fi := F_law_known) rfl, F_law_known, runF_code]
    have m : t = "left" ∨ t = "right" ∨ t = "about" := by simpa using a
    rcases m with rfl | rfl | rfl <;> simp (config := { decide := true }) [-primD, at10, fit_s, eqv_str]
end Pv
set_option linter.all false
set_option maxRecDepth 100000
set_option maxHeartbeats 4000000
namespace Pv
open PySem PySem.W
def wordL : List Str := ["dancer", "group", "shape", "start", "call", "on", "as", "times", "only", "left", "right", "about", "step", "back", "north", "east", "south", "west"]
theorem wordD : ([.str "dancer", .str "group", .str "shape", .str "start", .str "call", .str "on", .str "as", .str "times", .str "only", .str "left", .str "right", .str "about", .str "step", .str "back", .str "north", .str "east", .str "south", .str "west"] : List PyData) = wordL.map .str := rfl
theorem f_word : fit (.tuple (wordL.map .str)) = true := fit_datum (Tup.mk wordL) (by decide)
theorem fit_tst (l : List Str) : fit (.tuple (l.map .str)) = true := fit_datum (Tup.mk l) (by decide)
def letters : Str := "abcdefghijklmnopqrstuvwxyz"
def nameB (x : Str) : Bool := (decide (1 ≤ x.length) && decide (x.length ≤ 8)) && (decide (x ∉ wordL) && x.cps.toList.all fun c => decide (c ∈ letters.cps.toList))
theorem c_name (d : Nat) (x : Str) (h : nameB x = true) (q) (e) : callD T (d + 1) 2 [.v (.str x)] q e = q (.bool true) [.v (.str x)] := by
  simp only [nameB, Bool.and_eq_true, decide_eq_true_eq] at h
  obtain ⟨⟨h1, h2⟩, h3, h4⟩ := h
  have l1 : (1 : Int) ≤ x.length := by omega
  have l2 : (x.length : Int) ≤ 8 := by omega
  have l3 : x.length ≤ LIM := by show _ ≤ 1000000; omega
  rw [callD_s (fi := Fis_name) rfl, Fis_name, runF_code]
  simp (config := { decide := true }) [-primD, wordD, f_word, memD_str, h3, l1, l2, l3, fit_s]
  have e1 : signsD x = x.cps.toList.map fun c => PyData.str ⟨#[c]⟩ := rfl
  rw [e1]
  refine (cm (fun c => PyData.str ⟨#[c]⟩) (fun c => .bool (decide (c ∈ letters.cps.toList))) (fun c _ k => ?_)).trans ?_
  · show ((1 = 1) ∧ _) = _
    simp
    rfl
  · have : ((x.cps.toList.map fun c => PyData.bool (decide (c ∈ letters.cps.toList))).all isTrueD) = true := by rw [List.all_map]; exact h4
    rw [this]
    exact and_iff_right (by simp)
/-- some dancers -/
theorem c_group (d : Nat) (vs ds : List Str) (n : vs ≠ []) (q) (e) : callD T (d + 1) 8 [.v (.tuple (vs.map .str)), .v (.tuple (ds.map .str))] q e = q (.bool (decide (vs = ds.filter fun x => decide (x ∈ vs)))) [.v (.tuple (vs.map .str)), .v (.tuple (ds.map .str))] := by
  have l1 : ¬ vs.length = 0 := fun z => n (List.eq_nil_of_length_eq_zero z)
  rw [callD_s (fi := Fis_group) rfl, Fis_group, runF_code]
  simp (config := { decide := true }) [-primD, eqv_i, fit_i, l1, -List.length_eq_zero_iff, n]
  refine (cf (fun x : Str => PyData.str x) (fun x => .str x) (fun x => decide (x ∈ vs)) (fun x _ k => ?_)).trans ?_
  · simp [memD_str, fit_s, fit_tst]
  · have e1 : PyData.eqv (.list (vs.map .str)) (.list ((ds.filter fun x => decide (x ∈ vs)).map .str)) = decide (vs = ds.filter fun x => decide (x ∈ vs)) := Datum.eqv vs (ds.filter fun x => decide (x ∈ vs))
    have f1 : fit (.list (vs.map .str)) = true := fit_strL vs
    have f2 : fit (.list ((ds.filter fun x => decide (x ∈ vs)).map .str)) = true := fit_strL _
    rw [e1, f1, f2]
    exact and_iff_right ⟨rfl, rfl⟩
theorem g_non (d : Nat) (v D : PyData) (h : isaD 0 v = false ∨ v = .tuple []) (q) (e) : callD T (d + 1) 8 [.v v, .v D] q e = q (.bool false) [.v v, .v D] := by
  rw [callD_s (fi := Fis_group) rfl, Fis_group, runF_code]
  rcases h with h | rfl
  · simp [-primD, h]
  · simp (config := { decide := true }) [-primD, eqv_i, fit_i]
def ss4 : List (Str × PyData) := sh4.map fun a => (a.1, pls a.2)
theorem nd4 : (ss4.map (·.1)).Nodup := by decide
theorem get4 {s : Str} {l : List Pl} (h : (s, l) ∈ sh4) : getD (encP ss4) s = some (pls l) := getD_mem nd4 (List.mem_map.mpr ⟨_, h, rfl⟩)
section
variable (d : Nat) (cs gs : List Str) (q : PyData → List Slot → Prop) (e : Ex → List Slot → Prop)
theorem f_oa : fit (.tuple [.str "on", .str "as"]) = true := by decide
theorem m_oa (w : Str) : memD (.str w) [.str "on", .str "as"] = decide (w ∈ (["on", "as"] : List Str)) := memD_str w ["on", "as"]
theorem c_on {s : Str} {l : List Pl} (h : (s, l) ∈ sh4) (g : List Pl) (n : g ≠ []) (n8 : g.length ≤ 8) : callD T (d + 3) 9 [.v (.tuple [.str "on", .str s, pls g]), .v (.dict (encP ss4)), .v (strL cs), .v (strL gs)] q e =
    q (.bool (decide ((∀ p ∈ g, OkP p) ∧ Spots g) && decide (g.length = l.length))) [.v (.tuple [.str "on", .str s, pls g]), .v (.dict (encP ss4)), .v (strL cs), .v (strL gs)] := by
  have c1 := fun q e => c_are d g n n8 q e
  have g4 := get4 h
  have e6 : ∀ (l : List Pl) k, lenD (pls l) k = k l.length := fun l k => by simp [pls]
  have e7 : decide ((g.length : Int) = l.length) = decide (g.length = l.length) := decide_eq_decide.mpr (by omega)
  rw [callD_s (fi := Fis_call) rfl, Fis_call, runF_code]
  simp (config := { decide := true }) [-primD, at0, at1, at2, f_oa, m_oa, eqv_str, eqv_i, g4, c1, e6, e7, fit_s, fit_i]
  by_cases h1 : ∀ p ∈ g, OkP p
  · by_cases h2 : Spots g
    · simp [eq_true h1, h2]
    · simp [h2]
  · simp [eq_false h1]
theorem c_as {p : PyData} (h0 : p.plain = true) (D S : PyData) (b : Bool) (h : ∀ q e, callD T (d + 2) 3 [.v p, .v S, .v (strL gs), .v (.int 0)] q e = q (.bool b) [.v p, .v S, .v (strL gs), .v (.int 0)]) : callD T (d + 3) 9 [.v (.tuple [.str "as", p]), .v D, .v S, .v (strL gs)] q e =
    q (.bool b) [.v (.tuple [.str "as", p]), .v D, .v S, .v (strL gs)] := by
  rw [callD_s (fi := Fis_call) rfl, Fis_call, runF_code]
  simp (config := { decide := true }) [-primD, at20, at21, f_oa, m_oa, eqv_str, eqv_i, fit_s, fit_i, h]
/-- what is no call -/
theorem bad_call1 (v D S G : PyData) (h : isaD 0 v = false) : callD T (d + 1) 9 [.v v, .v D, .v S, .v G] q e = q (.bool false) [.v v, .v D, .v S, .v G] := by
  rw [callD_s (fi := Fis_call) rfl, Fis_call, runF_code]
  simp [-primD, h]
theorem bad_call2 (x D S G : PyData) : callD T (d + 1) 9 [.v (.tuple [x]), .v D, .v S, .v G] q e = q (.bool false) [.v (.tuple [x]), .v D, .v S, .v G] := by
  rw [callD_s (fi := Fis_call) rfl, Fis_call, runF_code]
  simp (config := { decide := true }) [-primD]
theorem bad_call3 (r : List PyData) (D S G : PyData) (n : r ≠ []) : callD T (d + 1) 9 [.v (.tuple (.str "other" :: r)), .v D, .v S, .v G] q e = q (.bool false) [.v (.tuple (.str "other" :: r)), .v D, .v S, .v G] := by
  have l1 : ¬ (r.length : Int) + 1 < 2 := by
    have := List.length_pos_iff.mpr n
    omega
  rw [callD_s (fi := Fis_call) rfl, Fis_call, runF_code]
  simp (config := { decide := true }) [-primD, atc, f_oa, m_oa, fit_s, l1]
/-- one more -/
theorem bad_call4 (a b x D S G : PyData) (w : Str) : callD T (d + 1) 9 [.v (.tuple [.str "on", a, b, x]), .v D, .v S, .v G] q e = q (.bool false) [.v (.tuple [.str "on", a, b, x]), .v D, .v S, .v G] := by
  rw [callD_s (fi := Fis_call) rfl, Fis_call, runF_code]
  simp (config := { decide := true }) [-primD, atc, f_oa, m_oa, fit_s, fit_i, eqv_str, eqv_i]
theorem bad_call5 (a x D S G : PyData) : callD T (d + 1) 9 [.v (.tuple [.str "as", a, x]), .v D, .v S, .v G] q e = q (.bool false) [.v (.tuple [.str "as", a, x]), .v D, .v S, .v G] := by
  rw [callD_s (fi := Fis_call) rfl, Fis_call, runF_code]
  simp (config := { decide := true }) [-primD, atc, f_oa, m_oa, fit_s, fit_i, eqv_str, eqv_i]
theorem bad_call6 (g S G : PyData) : callD T (d + 1) 9 [.v (.tuple [.str "on", .str "zoo", g]), .v (.dict (encP ss4)), .v S, .v G] q e = q (.bool false) [.v (.tuple [.str "on", .str "zoo", g]), .v (.dict (encP ss4)), .v S, .v G] := by
  have z : getD (encP ss4) "zoo" = none := by decide
  rw [callD_s (fi := Fis_call) rfl, Fis_call, runF_code]
  simp (config := { decide := true }) [-primD, at0, at1, at2, f_oa, m_oa, fit_s, fit_i, eqv_str, eqv_i, z]
theorem bad_call7 (g D S G : PyData) : callD T (d + 1) 9 [.v (.tuple [.str "on", .int 1, g]), .v D, .v S, .v G] q e = q (.bool false) [.v (.tuple [.str "on", .int 1, g]), .v D, .v S, .v G] := by
  rw [callD_s (fi := Fis_call) rfl, Fis_call, runF_code]
  simp (config := { decide := true }) [-primD, at0, at1, at2, f_oa, m_oa, fit_s, fit_i, eqv_str, eqv_i]
theorem are_non (v : PyData) (h : isaD 0 v = false) : callD T (d + 1) 1 [.v v] q e = q (.bool false) [.v v] := by
  rw [callD_s (fi := Fare_places) rfl, Fare_places, runF_code]
  simp [-primD, h]
theorem are_nil : callD T (d + 1) 1 [.v (.tuple [])] q e = q (.bool false) [.v (.tuple [])] := by
  rw [callD_s (fi := Fare_places) rfl, Fare_places, runF_code]
  simp (config := { decide := true }) [-primD]
theorem bad_call8 {s : Str} {l : List Pl} (h : (s, l) ∈ sh4) (g : List PyData) (S G : PyData) : callD T (d + 2) 9 [.v (.tuple [.str "on", .str s, .list g]), .v (.dict (encP ss4)), .v S, .v G] q e = q (.bool false) [.v (.tuple [.str "on", .str s, .list g]), .v (.dict (encP ss4)), .v S, .v G] := by
  have g4 := get4 h
  have c1 := fun q e => are_non d q e (.list g) rfl
  rw [callD_s (fi := Fis_call) rfl, Fis_call, runF_code]
  simp (config := { decide := true }) [-primD, at0, at1, at2, f_oa, m_oa, eqv_str, eqv_i, g4, c1, fit_s, fit_i]
end
end Pv
set_option linter.all false
set_option maxRecDepth 100000
set_option maxHeartbeats 4000000
namespace Pv
open PySem PySem.W
theorem Pr.mono {cs cs' gs : List Str} (h : ∀ c ∈ cs, c ∈ cs') {n : Nat} {p : PyData} (k : Pr cs gs n p) : Pr cs' gs n p := by
  induction k with
  | times a b _ ih => exact .times a b ih
  | only a _ ih => exact .only a ih
  | row a b _ ih => exact .row a b ih
  | call a => exact .call (h _ a)
  | turn a => exact .turn a
/-- what a row of the table of calls looks like, by the names told ahead -/
def CallOk (gs cs : List Str) (t : PyData) : Prop := (∃ s l g, (s, l) ∈ sh4 ∧ g.length = l.length ∧ (∀ p ∈ g, OkP p) ∧ Spots g ∧ t = .tuple [.str "on", .str s, pls g]) ∨ ∃ p, Pr cs gs 2 p ∧ t = .tuple [.str "as", p]
theorem wf_split {gs : List Str} {cl : List (Str × PyData)} (h : Wf gs cl) : ∀ pre a post, cl = pre ++ a :: post → CallOk gs (pre.map (·.1)) a.2 := by
  induction h with
  | nil => intro pre a post e; simp at e
  | @on cl x s l g _ h1 h2 h3 h4 ih =>
    intro pre a post e
    rcases List.eq_nil_or_concat post with rfl | ⟨post, b, rfl⟩
    · obtain ⟨rfl, e2⟩ := List.append_inj' e (by simp)
      simp at e2
      subst e2
      exact .inl ⟨s, l, g, h1, h2, h3, h4, rfl⟩
    · rw [List.concat_eq_append, ← List.cons_append, ← List.append_assoc] at e
      obtain ⟨rfl, e2⟩ := List.append_inj' e (by simp)
      exact ih pre a post rfl
  | @as cl x p _ h1 ih =>
    intro pre a post e
    rcases List.eq_nil_or_concat post with rfl | ⟨post, b, rfl⟩
    · obtain ⟨rfl, e2⟩ := List.append_inj' e (by simp)
      simp at e2
      subst e2
      exact .inr ⟨p, h1, rfl⟩
    · rw [List.concat_eq_append, ← List.cons_append, ← List.append_assoc] at e
      obtain ⟨rfl, e2⟩ := List.append_inj' e (by simp)
      exact ih pre a post rfl
theorem sh4_len {s : Str} {l : List Pl} (h : (s, l) ∈ sh4) : 1 ≤ l.length ∧ l.length ≤ 2 := by
  simp only [sh4, List.mem_cons, List.not_mem_nil, or_false, Prod.mk.injEq] at h
  rcases h with ⟨_, rfl⟩ | ⟨_, rfl⟩ | ⟨_, rfl⟩ | ⟨_, rfl⟩ <;> decide
theorem c_callok {gs cs : List Str} {t : PyData} (h : CallOk gs cs t) (d : Nat) (q) (e) : callD T (d + 12) 9 [.v t, .v (.dict (encP ss4)), .v (strL cs), .v (strL gs)] q e = q (.bool true) [.v t, .v (.dict (encP ss4)), .v (strL cs), .v (strL gs)] := by
  rcases h with ⟨s, l, g, h1, h2, h3, h4, rfl⟩ | ⟨p, hp, rfl⟩
  · have := sh4_len h1
    rw [c_on (d + 9) cs gs q e h1 g (fun z => by rw [z] at h2; simp at h2; omega) (by omega), decide_eq_true h2, decide_eq_true ⟨h3, h4⟩]
    rfl
  · exact c_as (d + 9) gs q e hp.fit.1 _ _ true fun q e => c_prog cs gs hp (d + 11) (by omega) 0 (by omega) q e
section
variable (D : PyData) (gs : List Str) (q : PyData → List Slot → Prop) (e : Ex → List Slot → Prop)
/-- the loop over calls -/
theorem calls_loop (d : Nat) (E : Ex → Env → Prop) : ∀ (post pre : List (Str × PyData)), pre.length + post.length ≤ 1000 → (∀ p a r, pre ++ post = p ++ a :: r → CallOk gs (p.map (·.1)) a.2) → ∀ Q : Fl → Prop,
    forL (.tp [1, 2]) [1, 2] (fun ρ1 q => evSs (callD T (d + 12)) Bare_tables_2 ρ1 q E) (post.map pairT) [.v D, .un, .un, .v (.dict (encP ss4)), .v (strL gs), .own (strL (pre.map (·.1)))] Q = Q (.nx [.v D, .un, .un, .v (.dict (encP ss4)), .v (strL gs), .own (strL ((pre ++ post).map (·.1)))]) := by
  intro post
  induction post with
  | nil => intro pre n h Q; simp [forL]
  | cons a post ih =>
    intro pre n h Q
    have ok := h pre a post rfl
    have L : (pre.map (·.1)).length < LIM := by rw [List.length_map]; show _ < 1000000; simp at n; omega
    rw [List.map_cons, forL]
    simp only [pairT, setTg, asT_t, List.length_cons, List.length_nil, setAll, List.set_cons_succ, List.set_cons_zero, true_and]
    rw [Bare_tables_2]
    simp only [evSs, evS, evE, evAr, slotO_o, slotV_v, List.getElem?_cons_succ, List.getElem?_cons_zero, List.set_cons_succ, List.set_cons_zero]
    rw [c_callok ok d]
    have ih := ih (pre ++ [a]) (by simp at n ⊢; omega) (by simpa using h) Q
    have es : strL ((pre ++ [a]).map (·.1)) = .list ((pre.map (·.1)).map .str ++ [.str a.1]) := by simp [strL]
    rw [es] at ih
    have e2 : pre ++ [a] ++ post = pre ++ a :: post := by simp
    rw [e2] at ih
    simp only [noLst, asB_b, Bool.not_true, Bool.false_eq_true, if_false, seqK_n, turnK_n, wipeE, List.set_cons_succ, List.set_cons_zero, true_and, strL, asL_l, slotO_o, List.getElem?_cons_succ, List.getElem?_cons_zero, slotV_v, List.length_map] at ih ⊢
    rw [← ih]
    rw [List.length_map] at L
    exact propext (and_iff_right L)
end
/-- groups as data -/
def grp (g : Str × List Str) : Str × PyData := (g.1, .tuple (g.2.map .str))
abbrev dsT (ds : List Str) : PyData := .tuple (ds.map .str)
section
variable (ds : List Str) (G4 S C st : PyData) (q : PyData → List Slot → Prop) (e : Ex → List Slot → Prop)
theorem groups_loop (d : Nat) (D : PyData) (hD : ∀ k, ixD D (.int 1) k = k (dsT ds)) (E : Ex → Env → Prop) (A B C : Slot) : ∀ (gl : List (Str × List Str)) (h : ∀ g ∈ gl, g.2 ≠ [] ∧ g.2 = ds.filter fun x => decide (x ∈ g.2)) (Q : Fl → Prop),
    forL (.tp [1, 2]) [1, 2] (fun ρ1 q => evSs (callD T (d + 1)) Bare_tables_1 ρ1 q E) ((gl.map grp).map pairT) [.v D, .un, .un, A, B, C] Q = Q (.nx [.v D, .un, .un, A, B, C]) := by
  intro gl
  induction gl with
  | nil => intro _ Q; rfl
  | cons g gl ih =>
    intro h Q
    obtain ⟨n, hg⟩ := h g List.mem_cons_self
    have c1 := fun q e => c_group d g.2 ds n q e
    rw [decide_eq_true hg] at c1
    rw [List.map_cons, List.map_cons, forL]
    simp only [pairT, grp, setTg, asT_t, List.length_cons, List.length_nil, setAll, List.set_cons_succ, List.set_cons_zero, true_and, Bare_tables_1, evSs, evS, evE, evAr, slotV_v, List.getElem?_cons_succ, List.getElem?_cons_zero, hD, c1, asB_b, Bool.not_true, Bool.false_eq_true, if_false, seqK_n, turnK_n, wipeE]
    exact ih (fun g m => h g (List.mem_cons_of_mem _ m)) Q
theorem c_are4 (d : Nat) : ∀ a ∈ ss4, ∀ q e, callD T (d + 2) 1 [.v a.2] q e = q (.bool true) [.v a.2] := fun a m q e => by
  obtain ⟨b, hb, rfl⟩ := List.mem_map.mp m
  have := c_are d b.2 (by intro z; have := (sh4_len hb).1; rw [z] at this; simp at this) (by have := (sh4_len hb).2; omega) q e
  have ok : (∀ p ∈ b.2, OkP p) ∧ Spots b.2 := by
    simp only [sh4, List.mem_cons, List.not_mem_nil, or_false] at hb
    rcases hb with rfl | rfl | rfl | rfl <;> decide
  rw [decide_eq_true ok] at this
  exact this
/-- the tables have their forms -/
theorem c_tables (d : Nat) (gl : List (Str × List Str)) (hg : ∀ g ∈ gl, g.2 ≠ [] ∧ g.2 = ds.filter fun x => decide (x ∈ g.2)) (cl : List (Str × PyData)) (n : cl.length ≤ 1000) (w : Wf (gl.map (·.1)) cl) :
    callD T (d + 13) 7 [.v (dnc (dsT ds) (gl.map grp) (.tuple (ss4.map pairT)) cl st)] q e = q (.bool true) [.v (dnc (dsT ds) (gl.map grp) (.tuple (ss4.map pairT)) cl st)] := by
  rw [callD_s (fi := Fare_tables) rfl, Fare_tables, runF_code]
  have gn : (gl.map grp).map (·.1) = gl.map (·.1) := by rw [List.map_map]; rfl
  generalize hD : dnc (dsT ds) (gl.map grp) (.tuple (ss4.map pairT)) cl st = D
  have i1 : ∀ k, ixD D (.int 1) k = k (dsT ds) := fun k => by rw [← hD]; rfl
  have i2 : ∀ k, ixD D (.int 2) k = k (.tuple ((gl.map grp).map pairT)) := fun k => by rw [← hD]; rfl
  have i3 : ∀ k, ixD D (.int 3) k = k (.tuple (ss4.map pairT)) := fun k => by rw [← hD]; rfl
  have i4 : ∀ k, ixD D (.int 4) k = k (.tuple (cl.map pairT)) := fun k => by rw [← hD]; rfl
  refine propext ((and_iff_right rfl).trans ?_)
  simp only [evSs, evS, evI, evE, evEs, slotV_v, List.getElem?_cons_succ, List.getElem?_cons_zero, i2, asS_t, List.length_cons, List.length_nil, List.replicate, List.cons_append, List.nil_append, Nat.sub_zero, Nat.reduceSub, Nat.zero_add, Nat.reduceAdd]
  rw [groups_loop ds (d + 11) D i1 _ _ _ _ gl hg]
  simp only [seqK_n, evS, evE, evEs, evI, slotV_v, List.getElem?_cons_succ, List.getElem?_cons_zero, i3, asS_t, pr_all]
  have are4 : ∀ a ∈ ss4, ∀ q e, callD T (d + 12) 1 [.v a.2] q e = q (.bool true) [.v a.2] := fun a m q e => by
    obtain ⟨b, hb, rfl⟩ := List.mem_map.mp m
    have := c_are (d + 10) b.2 (by intro z; have := (sh4_len hb).1; rw [z] at this; simp at this) (by have := (sh4_len hb).2; omega) q e
    have ok : (∀ p ∈ b.2, OkP p) ∧ Spots b.2 := by
      simp only [sh4, List.mem_cons, List.not_mem_nil, or_false] at hb
      rcases hb with rfl | rfl | rfl | rfl <;> decide
    rw [decide_eq_true ok] at this
    exact this
  rw [cmpF_map pairT (fun _ => .bool true) fun a m k => by simp [pairT, are4 a m]]
  have b1 : (ss4.map fun _ => PyData.bool true).all isBoolD = true := by decide
  have b2 : (ss4.map fun _ => PyData.bool true).all isTrueD = true := by decide
  simp only [asS_l, b1, b2, true_and, asB_b, Bool.not_true, Bool.false_eq_true, if_false, evSs, seqK_n, evS, evEs, evE, evI, slotV_v, List.getElem?_cons_succ, List.getElem?_cons_zero, i3, i2, asS_t, pr_dct, pairsD_map, nd4]
  rw [cmpF_map pairT (fun a => .str a.1) fun a m k => by simp [pairT]]
  simp only [setsL_c, setsL_n, List.set_cons_succ, List.set_cons_zero, if_true, if_false, Bool.false_eq_true, seqK_n, evS, evSs, evI, evE, slotV_v, List.getElem?_cons_succ, List.getElem?_cons_zero, i4, asS_t]
  have e1 : PyData.list (List.map (fun a => PyData.str a.1) (gl.map grp)) = strL (gl.map (·.1)) := by simp [strL, grp]
  have e2 : PyData.list [] = strL (([] : List (Str × PyData)).map (·.1)) := rfl
  rw [e1, e2, calls_loop D (gl.map (·.1)) d _ cl [] (by simpa using n) (fun p a r z => wf_split w p a r (by simpa using z))]
  rfl
/-- a group that is none -/
theorem t_bad1 (d : Nat) (cl : List (Str × PyData)) (hz : ("zoo" : Str) ∉ ds) : callD T (d + 2) 7 [.v (dnc (dsT ds) [("men", .tuple [.str "zoo"])] S cl st)] q e = q (.bool false) [.v (dnc (dsT ds) [("men", .tuple [.str "zoo"])] S cl st)] := by
  have c1 := fun q e => c_group d ["zoo"] ds (by simp) q e
  have f : ds.filter (fun x => decide (x ∈ (["zoo"] : List Str))) = [] := by
    rw [List.filter_eq_nil_iff]
    intro a ha z
    have : a = "zoo" := by simpa using z
    exact hz (this ▸ ha)
  rw [f, decide_eq_false (by simp)] at c1
  have c1 : ∀ q e, callD T (d + 1) 8 [.v (.tuple [.str "zoo"]), .v (dsT ds)] q e = q (.bool false) [.v (.tuple [.str "zoo"]), .v (dsT ds)] := c1
  rw [callD_s (fi := Fare_tables) rfl, Fare_tables, runF_code]
  simp (config := { decide := true }) [-primD, at62, at61, forL, pairT, Bare_tables_1, c1]
/-- a shape that is none -/
theorem t_bad2 (d : Nat) (gl : List (Str × List Str)) (hg : ∀ g ∈ gl, g.2 ≠ [] ∧ g.2 = ds.filter fun x => decide (x ∈ g.2)) (sl : List (Str × PyData)) (hs : ∃ b : Str × PyData → Bool, sl.all b = false ∧ ∀ a ∈ sl, ∀ q e, callD T (d + 1) 1 [.v a.2] q e = q (.bool (b a)) [.v a.2]) :
    callD T (d + 2) 7 [.v (.tuple [.str "dance", dsT ds, .tuple ((gl.map grp).map pairT), .tuple (sl.map pairT), C, st])] q e = q (.bool false) [.v (.tuple [.str "dance", dsT ds, .tuple ((gl.map grp).map pairT), .tuple (sl.map pairT), C, st])] := by
  obtain ⟨b, hb, hs⟩ := hs
  rw [callD_s (fi := Fare_tables) rfl, Fare_tables, runF_code]
  generalize hD : PyData.tuple [.str "dance", dsT ds, .tuple ((gl.map grp).map pairT), .tuple (sl.map pairT), C, st] = D
  have i1 : ∀ k, ixD D (.int 1) k = k (dsT ds) := fun k => by rw [← hD]; rfl
  have i2 : ∀ k, ixD D (.int 2) k = k (.tuple ((gl.map grp).map pairT)) := fun k => by rw [← hD]; rfl
  have i3 : ∀ k, ixD D (.int 3) k = k (.tuple (sl.map pairT)) := fun k => by rw [← hD]; rfl
  refine propext ((and_iff_right rfl).trans ?_)
  simp only [evSs, evS, evI, evE, evEs, slotV_v, List.getElem?_cons_succ, List.getElem?_cons_zero, i2, asS_t, List.length_cons, List.length_nil, List.replicate, List.cons_append, List.nil_append, Nat.sub_zero, Nat.reduceSub, Nat.zero_add, Nat.reduceAdd]
  rw [groups_loop ds d D i1 _ _ _ _ gl hg]
  simp only [seqK_n, evS, evE, evEs, evI, slotV_v, List.getElem?_cons_succ, List.getElem?_cons_zero, i3, asS_t, pr_all]
  rw [cmpF_map pairT (fun a => .bool (b a)) fun a m k => by simp [pairT, hs a m]]
  have b1 : (sl.map fun a => PyData.bool (b a)).all isBoolD = true := by simp
  have b2 : (sl.map fun a => PyData.bool (b a)).all isTrueD = false := by rw [List.all_map]; exact hb
  simp only [asS_l, b1, b2, true_and, asB_b, Bool.not_false, if_true, evSs, seqK_n, seqK_r, evS, evE]
  rfl
/-- a call that names what is not told ahead -/
theorem t_bad3 (d : Nat) (gl : List (Str × List Str)) (hg : ∀ g ∈ gl, g.2 ≠ [] ∧ g.2 = ds.filter fun x => decide (x ∈ g.2)) (x c : Str) (r : List (Str × PyData)) :
    callD T (d + 13) 7 [.v (dnc (dsT ds) (gl.map grp) (.tuple (ss4.map pairT)) ((x, .tuple [.str "as", pcall c]) :: r) st)] q e = q (.bool false) [.v (dnc (dsT ds) (gl.map grp) (.tuple (ss4.map pairT)) ((x, .tuple [.str "as", pcall c]) :: r) st)] := by
  rw [callD_s (fi := Fare_tables) rfl, Fare_tables, runF_code]
  generalize hD : dnc (dsT ds) (gl.map grp) (.tuple (ss4.map pairT)) ((x, .tuple [.str "as", pcall c]) :: r) st = D
  have i1 : ∀ k, ixD D (.int 1) k = k (dsT ds) := fun k => by rw [← hD]; rfl
  have i2 : ∀ k, ixD D (.int 2) k = k (.tuple ((gl.map grp).map pairT)) := fun k => by rw [← hD]; rfl
  have i3 : ∀ k, ixD D (.int 3) k = k (.tuple (ss4.map pairT)) := fun k => by rw [← hD]; rfl
  have i4 : ∀ k, ixD D (.int 4) k = k (.tuple (((x, .tuple [.str "as", pcall c]) :: r : List (Str × PyData)).map pairT)) := fun k => by rw [← hD]; rfl
  refine propext ((and_iff_right rfl).trans ?_)
  simp only [evSs, evS, evI, evE, evEs, slotV_v, List.getElem?_cons_succ, List.getElem?_cons_zero, i2, asS_t, List.length_cons, List.length_nil, List.replicate, List.cons_append, List.nil_append, Nat.sub_zero, Nat.reduceSub, Nat.zero_add, Nat.reduceAdd]
  rw [groups_loop ds (d + 11) D i1 _ _ _ _ gl hg]
  simp only [seqK_n, evS, evE, evEs, evI, slotV_v, List.getElem?_cons_succ, List.getElem?_cons_zero, i3, asS_t, pr_all]
  rw [cmpF_map pairT (fun _ => .bool true) fun a m k => by simp [pairT, c_are4 (d + 10) a m]]
  have b1 : (ss4.map fun _ => PyData.bool true).all isBoolD = true := by decide
  have b2 : (ss4.map fun _ => PyData.bool true).all isTrueD = true := by decide
  simp only [asS_l, b1, b2, true_and, asB_b, Bool.not_true, Bool.false_eq_true, if_false, evSs, seqK_n, evS, evEs, evE, evI, slotV_v, List.getElem?_cons_succ, List.getElem?_cons_zero, i3, i2, asS_t, pr_dct, pairsD_map, nd4]
  rw [cmpF_map pairT (fun a => .str a.1) fun a m k => by simp [pairT]]
  simp only [setsL_c, setsL_n, List.set_cons_succ, List.set_cons_zero, if_true, if_false, Bool.false_eq_true, seqK_n, evS, evSs, evI, evE, slotV_v, List.getElem?_cons_succ, List.getElem?_cons_zero, i4, asS_t]
  have e1 : PyData.list (List.map (fun a => PyData.str a.1) (gl.map grp)) = strL (gl.map (·.1)) := by simp [strL, grp]
  have c9 := fun q e => c_as (d + 9) (gl.map (·.1)) q e (p := pcall c) (by simp [PyData.plain, PyData.plainAll]) (.dict (encP ss4)) (strL []) false fun q e => by rw [p_call (d + 9) _ 0 q e c []]; simp
  rw [e1, List.map_cons, forL]
  simp only [pairT, setTg, asT_t, List.length_cons, List.length_nil, setAll, List.set_cons_succ, List.set_cons_zero, true_and, Bare_tables_2, evSs, evS, evE, evAr, slotO_o, slotV_v, List.getElem?_cons_succ, List.getElem?_cons_zero]
  have e2 : PyData.list [] = strL [] := rfl
  rw [e2, c9]
  simp [noLst]
end
end Pv
set_option linter.all false
set_option maxRecDepth 100000
set_option maxHeartbeats 4000000
namespace Pv
open PySem PySem.W
theorem unlike_str (l : List Str) : unlike (l.map .str) = l.length ↔ l.Nodup := unlike_nodup l
theorem unlike_lt (l : List Str) : decide ((unlike (l.map PyData.str) : Int) < (l.length : Int)) = !decide l.Nodup := by
  have h1 := unlike_str l
  have h2 := unlike_le (l.map PyData.str)
  rw [List.length_map] at h2
  by_cases h : l.Nodup
  · rw [decide_eq_true h, h1.mpr h]; simp
  · have : unlike (l.map PyData.str) ≠ l.length := fun z => h (h1.mp z)
    rw [decide_eq_false h, decide_eq_true (by omega)]; rfl
section
variable (ds : List Str) (gl sl cl : List (Str × PyData)) (st : PyData) (q : PyData → List Slot → Prop) (e : Ex → List Slot → Prop)
abbrev dnT : PyData := .tuple [.str "dance", dsT ds, .tuple (gl.map pairT), .tuple (sl.map pairT), .tuple (cl.map pairT), st]
def namesOf : List Str := ds ++ gl.map (·.1) ++ sl.map (·.1) ++ cl.map (·.1)
theorem b_dance (C : Orc) (D B X : Slot) (l : List (Str × PyData)) (n : l.length ≤ 20) (ns : List Str) (m : ns.length ≤ 100) (Q : Fl → Prop) (E : Ex → Env → Prop) :
    evSs C Bis_dance_1 [D, .own (strL ns), .v (.tuple (l.map pairT)), B, X] Q E = Q (.nx [D, .own (strL (ns ++ l.map (·.1))), .v (.tuple (l.map pairT)), B, X]) := by
  have l1 : ¬ 20 < (l.length : Int) := by omega
  simp only [Bis_dance_1, evSs, evS, evE, evEs, slotV_v, List.getElem?_cons_succ, List.getElem?_cons_zero, pr_len, lenD_t, List.length_map, cmpD, asI_i, asB_b, decide_eq_false l1, Bool.false_eq_true, if_false, evI, asS_t, pr_all]
  rw [cmpF_map pairT (fun _ => .bool true) fun a m k => by simp [pairT, fit_i, eqv_i]]
  have b1 : (l.map fun _ => PyData.bool true).all isBoolD = true := by simp
  have b2 : (l.map fun _ => PyData.bool true).all isTrueD = true := by simp
  simp only [asS_l, b1, b2, true_and, asB_b, Bool.not_true, Bool.false_eq_true, if_false, evSs, seqK_n, evS, evE, evI, slotO_o, slotV_v, List.getElem?_cons_succ, List.getElem?_cons_zero, asS_t, strL, asL_l]
  rw [cmpF_map pairT (fun a => .str a.1) fun a m k => by simp [pairT, at20]]
  have L : (ns.map PyData.str).length + (l.map fun a : Str × PyData => PyData.str a.1).length ≤ LIM := by simp; show _ ≤ 1000000; omega
  simp only [asL_l, seqK_n, List.set_cons_succ, List.set_cons_zero]
  rw [eq_true L, true_and]
  simp [Function.comp_def]
/-- up to the names -/
theorem dance_names (d : Nat) (n1 : ds ≠ []) (n2 : ds.length ≤ 8) (h2 : gl.length ≤ 20) (h3 : sl.length ≤ 20) (h4 : cl.length ≤ 20) (hn : ∀ x ∈ namesOf ds gl sl cl, nameB x = true) (hl : (namesOf ds gl sl cl).length ≤ 60) (hst : isaD 0 st = true) :
    callD T (d + 2) 6 [.v (dnT ds gl sl cl st)] q e = if (namesOf ds gl sl cl).Nodup then evSs (callD T (d + 1)) (.cons (.ifs (.or (.not (.call 1 (.cons (.idx (.nm 0) (.cst (.int 5))) .nil))) (.cmp .ne (.prim .len (.cons (.idx (.nm 0) (.cst (.int 5))) .nil)) (.prim .len (.cons (.idx (.nm 0) (.cst (.int 1))) .nil)))) (.cons (.ret (.cst (.bool false))) .nil) .nil) (.cons (.ret (.call 7 (.cons (.nm 0) .nil))) .nil))
      [.v (dnT ds gl sl cl st), .own (strL (namesOf ds gl sl cl)), .un, .un, .un] (endF 1 q) (fun x ρ => e x (ρ.take 1)) else q (.bool false) [.v (dnT ds gl sl cl st)] := by
  have z1 : (1 : Int) ≤ ds.length := by have := List.length_pos_iff.mpr n1; omega
  have z2 : (ds.length : Int) ≤ 8 := by omega
  rw [callD_s (fi := Fis_dance) rfl, Fis_dance, runF_code]
  have cut15 : cutG [PyData.str "dance", dsT ds, .tuple (gl.map pairT), .tuple (sl.map pairT), .tuple (cl.map pairT), st] (some 1) none = [dsT ds, .tuple (gl.map pairT), .tuple (sl.map pairT), .tuple (cl.map pairT), st] := cut1 _ _
  have cut25 : cutG [PyData.str "dance", dsT ds, .tuple (gl.map pairT), .tuple (sl.map pairT), .tuple (cl.map pairT), st] (some 2) (some 5) = [.tuple (gl.map pairT), .tuple (sl.map pairT), .tuple (cl.map pairT)] := rfl
  refine propext ((and_iff_right rfl).trans ?_)
  simp (config := { decide := true }) [-primD, at61, at65, atc, fit_s, fit_i, eqv_str, eqv_i, cut15, cut25, cmpF, hst, z1, z2, forL]
  rw [show PyData.list (ds.map .str) = strL ds from rfl]
  unfold namesOf at hl hn ⊢
  simp only [List.length_append, List.length_map] at hl
  rw [b_dance _ _ _ _ gl h2 ds (by omega)]
  simp only [turnK_n, List.set_cons_succ, List.set_cons_zero]
  rw [b_dance _ _ _ _ sl h3 _ (by simp; omega)]
  simp only [turnK_n, List.set_cons_succ, List.set_cons_zero]
  rw [b_dance _ _ _ _ cl h4 _ (by simp; omega)]
  simp only [turnK_n, List.set_cons_succ, List.set_cons_zero, List.getElem?_cons_succ, List.getElem?_cons_zero, slotO_o, slotV_v]
  generalize hN : ds ++ gl.map (·.1) ++ sl.map (·.1) ++ cl.map (·.1) = N at hn ⊢
  have hN2 : N.length ≤ 60 := by rw [← hN]; simp; omega
  rw [strL]
  simp only [asS_l]
  rw [cmpF_map PyData.str (fun _ => .bool true) fun a m k => by rw [c_name d a (hn a m)]]
  have b1 : ∀ x ∈ N.map (fun _ => PyData.bool true), isBoolD x = true := by simp
  have b2 : ∀ x ∈ N.map (fun _ => PyData.bool true), isTrueD x = true := by simp
  have b3 : ∀ x ∈ N.map PyData.str, isStrT x = true := by simp
  rw [if_pos b2]
  simp only [eq_true b1, eq_true b3, or_true, true_and, asL_l, lenD_l, List.length_map, eq_true hN2]
  have hu := unlike_lt N
  by_cases nd : N.Nodup
  · rw [decide_eq_true nd] at hu
    have : ¬ ((unlike (N.map PyData.str) : Int) < N.length) := by simpa using hu
    rw [if_neg (by omega), if_pos nd]
    simp (config := { decide := true }) [-primD, at61, at65, fit_i, eqv_i]
  · rw [decide_eq_false nd] at hu
    have : ((unlike (N.map PyData.str) : Int) < N.length) := by simpa using hu
    rw [if_pos (by omega), if_neg nd]
    rfl
end
end Pv
set_option linter.all false
set_option maxRecDepth 100000
set_option maxHeartbeats 4000000
namespace Pv
open PySem PySem.W
section
variable (ds : List Str) (gl sl cl : List (Str × PyData)) (q : PyData → List Slot → Prop) (e : Ex → List Slot → Prop)
/-- what is asked of names -/
def NmOk : Prop := (ds ≠ [] ∧ ds.length ≤ 8 ∧ gl.length ≤ 20 ∧ sl.length ≤ 20 ∧ cl.length ≤ 20) ∧ (∀ x ∈ namesOf ds gl sl cl, nameB x = true) ∧ (namesOf ds gl sl cl).length ≤ 60
theorem dance_dup (d : Nat) (st : PyData) (h : NmOk ds gl sl cl) (nd : ¬ (namesOf ds gl sl cl).Nodup) (hst : isaD 0 st = true) : callD T (d + 2) 6 [.v (dnT ds gl sl cl st)] q e = q (.bool false) [.v (dnT ds gl sl cl st)] := by
  obtain ⟨⟨h1, h2, h3, h4, h5⟩, h6, h7⟩ := h
  rw [dance_names ds gl sl cl st q e d h1 h2 h3 h4 h5 h6 h7 hst, if_neg nd]
theorem dance_end (d : Nat) (l : List Pl) (l0 : l ≠ []) (l8 : l.length ≤ 8) (h : NmOk ds gl sl cl) (nd : (namesOf ds gl sl cl).Nodup) : callD T (d + 3) 6 [.v (dnT ds gl sl cl (pls l))] q e =
    if ((∀ p ∈ l, OkP p) ∧ Spots l) ∧ l.length = ds.length then callD T (d + 2) 7 [.v (dnT ds gl sl cl (pls l))] (fun r _ => q r [.v (dnT ds gl sl cl (pls l))]) (fun x _ => e x [.v (dnT ds gl sl cl (pls l))]) else q (.bool false) [.v (dnT ds gl sl cl (pls l))] := by
  obtain ⟨⟨h1, h2, h3, h4, h5⟩, h6, h7⟩ := h
  rw [dance_names ds gl sl cl (pls l) q e (d + 1) h1 h2 h3 h4 h5 h6 h7 rfl, if_pos nd]
  have c1 := fun q e => c_are d l l0 l8 q e
  have e6 : ∀ k, lenD (pls l) k = k l.length := fun k => by simp [pls]
  have e7 : ((l.length : Int) = ds.length) = (l.length = ds.length) := propext (by omega)
  simp (config := { decide := true }) [-primD, at65, at61, c1, e6, e7, fit_i, eqv_i]
  by_cases k1 : (∀ p ∈ l, OkP p) ∧ Spots l
  · by_cases k2 : l.length = ds.length
    · rw [if_pos k1, if_pos k2, if_pos ⟨k1, k2⟩]
    · rw [if_pos k1, if_neg k2, if_neg (fun z => k2 z.2)]
  · rw [if_neg k1, if_neg (fun z => k1 z.1)]
theorem dance_nil (d : Nat) (G S C st : PyData) : callD T (d + 1) 6 [.v (.tuple [.str "dance", .tuple [], G, S, C, st])] q e = q (.bool false) [.v (.tuple [.str "dance", .tuple [], G, S, C, st])] := by
  have cut15 : cutG [PyData.str "dance", .tuple [], G, S, C, st] (some 1) none = [.tuple [], G, S, C, st] := cut1 _ _
  rw [callD_s (fi := Fis_dance) rfl, Fis_dance, runF_code]
  simp (config := { decide := true }) [-primD, at61, atc, fit_s, fit_i, eqv_str, eqv_i, cut15, cmpF]
theorem dance_lst (d : Nat) (A G S st : PyData) : callD T (d + 1) 6 [.v (.tuple [.str "dance", A, G, S, .list [], st])] q e = q (.bool false) [.v (.tuple [.str "dance", A, G, S, .list [], st])] := by
  have cut15 : cutG [PyData.str "dance", A, G, S, .list [], st] (some 1) none = [A, G, S, .list [], st] := cut1 _ _
  rw [callD_s (fi := Fis_dance) rfl, Fis_dance, runF_code]
  simp (config := { decide := true }) [-primD, at61, atc, fit_s, fit_i, eqv_str, eqv_i, cut15, cmpF]
theorem dance_non (d : Nat) (v : PyData) (h : isaD 0 v = false) : callD T (d + 1) 6 [.v v] q e = q (.bool false) [.v v] := by
  rw [callD_s (fi := Fis_dance) rfl, Fis_dance, runF_code]
  simp [-primD, h]
theorem dance_len (d : Nat) (xs : List PyData) (h : xs.length = 5) : callD T (d + 1) 6 [.v (.tuple xs)] q e = q (.bool false) [.v (.tuple xs)] := by
  rw [callD_s (fi := Fis_dance) rfl, Fis_dance, runF_code]
  simp (config := { decide := true }) [-primD, h, fit_i, eqv_i]
theorem dance_oth (d : Nat) (xs : List PyData) (h : xs.length = 5) : callD T (d + 1) 6 [.v (.tuple (.str "other" :: xs))] q e = q (.bool false) [.v (.tuple (.str "other" :: xs))] := by
  rw [callD_s (fi := Fis_dance) rfl, Fis_dance, runF_code]
  simp (config := { decide := true }) [-primD, atc, h, fit_i, fit_s, eqv_i, eqv_str]
end
/-! ### is_set -/
section
variable (D : PyData) (ds : List Str) (hD : ∀ k, ixD D (.int 1) k = k (dsT ds)) (q : PyData → List Slot → Prop) (e : Ex → List Slot → Prop)
def FcOk (p : Pl) : Prop := 0 ≤ p.c ∧ p.c ≤ 3
theorem spots_eq' (l : List Pl) : decide ((unlike (l.map fun p => Datum.toD (p.a, p.b)) : Int) = l.length) = decide (Spots l) := by
  rw [← spots_eq, eqv_i]
theorem b_set (C : Orc) (V W : Slot) (p : Pl) (h : FcOk p) (Q : Fl → Prop) (E : Ex → Env → Prop) : evSs C Bis_set_1 [V, W, .v (pl p), .un] Q E = Q (.nx [V, W, .v (pl p), .un]) := by
  obtain ⟨h1, h2⟩ := h
  simp (config := { decide := true }) [-primD, Bis_set_1, pl, at2, cmpF, h1, h2, fit_i, eqv_i]
def BadIt (v : PyData) : Prop := v = .tuple [.int 9, .int 9, .int 4] ∨ v = .tuple [.int 9, .bool true, .int 0] ∨ v = .list [.int 9, .int 9, .int 0]
theorem b_setB (C : Orc) (V W : Slot) (v : PyData) (h : BadIt v) (Q : Fl → Prop) (E : Ex → Env → Prop) : evSs C Bis_set_1 [V, W, .v v, .un] Q E = Q (.rt (.bool false) [V, W, .v v, .un]) := by
  rcases h with rfl | rfl | rfl <;> simp (config := { decide := true }) [-primD, Bis_set_1, at2, cmpF, fit_i, eqv_i]
theorem set_loop (C : Orc) (V W : Slot) (E : Ex → Env → Prop) (Q : Fl → Prop) : ∀ (l : List Pl) (h : ∀ p ∈ l, FcOk p) (r : List PyData), forL (.nm 2) [2, 3] (fun ρ1 q => evSs C Bis_set_1 ρ1 q E) (l.map pl ++ r) [V, W, .un, .un] Q = forL (.nm 2) [2, 3] (fun ρ1 q => evSs C Bis_set_1 ρ1 q E) r [V, W, .un, .un] Q := by
  intro l
  induction l with
  | nil => intro _ r; rfl
  | cons p l ih =>
    intro h r
    rw [List.map_cons, List.cons_append, forL]
    simp only [setTg, List.set_cons_succ, List.set_cons_zero]
    rw [b_set C V W p (h p List.mem_cons_self)]
    simp only [turnK_n, wipeE, List.set_cons_succ, List.set_cons_zero]
    exact ih (fun p m => h p (List.mem_cons_of_mem _ m)) r
include hD in
/-- places for the dancers -/
theorem c_set (d : Nat) (l : List Pl) (n : l.length = ds.length) (l8 : l.length ≤ 60) (h : ∀ p ∈ l, FcOk p) : callD T (d + 1) 10 [.v D, .v (pls l)] q e = q (.bool (decide (Spots l))) [.v D, .v (pls l)] := by
  rw [callD_s (fi := Fis_set) rfl, Fis_set, runF_code]
  have n' : ((l.length : Int) = ds.length) = True := eq_true (by omega)
  refine propext ((and_iff_right rfl).trans ?_)
  simp only [pls, evSs, evS, evI, evE, evEs, slotV_v, List.cons_append, List.nil_append, List.getElem?_cons_succ, List.getElem?_cons_zero, isaD_t, asB_b, pr_len, lenD_t, hD, List.length_map, cmpD, eqv_i, fit_i, n', beq_self_eq_true, Bool.not_true, Bool.false_eq_true, if_false, Bool.and_self, true_and, decide_true, seqK_n, asS_t, List.length_cons, List.length_nil, List.replicate, Nat.sub_zero, Nat.reduceSub, Nat.zero_add, Nat.reduceAdd]
  have := fun Q => set_loop (callD T d) (.v D) (.v (.tuple (l.map pl))) (fun x ρ => e x (ρ.take 2)) Q l h []
  simp only [List.append_nil] at this
  rw [this, forL]
  simp only [seqK_n, slotV_v, List.getElem?_cons_succ, List.getElem?_cons_zero, asS_t]
  refine (cm pl (fun p => Datum.toD (p.a, p.b)) ?_).trans ?_
  · intro p m k
    rfl
  have a3 : (l.map (fun p : Pl => Datum.toD (p.a, p.b))).all intsT = true := by
    rw [List.all_map]
    exact List.all_eq_true.mpr fun p _ => rfl
  simp only [asL_l, a3, true_or, true_and, pr_len, lenD_t, cmpD, fit_i, Bool.and_self, List.length_map, spots_eq']
  rw [eq_true l8, true_and]
  rfl
include hD in
theorem set_bad (d : Nat) (l : List Pl) (h : ∀ p ∈ l, FcOk p) (v : PyData) (hv : BadIt v) (n : l.length + 1 = ds.length) : callD T (d + 1) 10 [.v D, .v (.tuple (l.map pl ++ [v]))] q e = q (.bool false) [.v D, .v (.tuple (l.map pl ++ [v]))] := by
  rw [callD_s (fi := Fis_set) rfl, Fis_set, runF_code]
  have n' : (((l.length + 1 : Nat) : Int) = ds.length) = True := eq_true (by omega)
  refine propext ((and_iff_right rfl).trans ?_)
  simp only [evSs, evS, evI, evE, evEs, slotV_v, List.cons_append, List.nil_append, List.getElem?_cons_succ, List.getElem?_cons_zero, isaD_t, asB_b, pr_len, lenD_t, hD, List.length_map, List.length_append, List.length_cons, List.length_nil, cmpD, eqv_i, fit_i, Nat.zero_add, n', beq_self_eq_true, Bool.not_true, Bool.false_eq_true, if_false, Bool.and_self, true_and, decide_true, seqK_n, asS_t, List.replicate, Nat.sub_zero, Nat.reduceSub, Nat.reduceAdd]
  have := fun Q => set_loop (callD T d) (.v D) (.v (.tuple (l.map pl ++ [v]))) (fun x ρ => e x (ρ.take 2)) Q l h [v]
  rw [this, forL]
  simp only [setTg, List.set_cons_succ, List.set_cons_zero]
  rw [b_setB _ _ _ v hv]
  rfl
theorem set_non (d : Nat) (v : PyData) (h : isaD 0 v = false) : callD T (d + 1) 10 [.v D, .v v] q e = q (.bool false) [.v D, .v v] := by
  rw [callD_s (fi := Fis_set) rfl, Fis_set, runF_code]
  simp [-primD, h]
include hD in
theorem set_len (d : Nat) (xs : List PyData) (n : xs.length ≠ ds.length) : callD T (d + 1) 10 [.v D, .v (.tuple xs)] q e = q (.bool false) [.v D, .v (.tuple xs)] := by
  rw [callD_s (fi := Fis_set) rfl, Fis_set, runF_code]
  have n' : ¬ (xs.length : Int) = ds.length := by omega
  simp [-primD, hD, fit_i, eqv_i, n']
end
end Pv
set_option linter.all false
set_option maxRecDepth 100000
set_option maxHeartbeats 4000000
namespace Pv
open PySem PySem.W
theorem c_take (d : Nat) (b : Int) (h : 2 ≤ b) (h' : b < 1000000000) (q) (e) : callD T (d + 1) 15 [.st, .v (.int b)] q e ↔ ∀ n : Nat, (n : Int) < b → q (.int n) [.st, .v (.int b)] := by
  rw [callD_s (fi := F_law_take) rfl, F_law_take, runF_take]
  have : ¬ b < 2 := by omega
  simp [takeF, this, h']
theorem take_one (d : Nat) (q) (e) : callD T (d + 1) 15 [.st, .v (.int 1)] q e = q (.int 0) [.st, .v (.int 1)] := by
  rw [callD_s (fi := F_law_take) rfl, F_law_take, runF_take]
  rfl
theorem c_pick (d : Nat) (xs : List PyData) (n : xs ≠ []) (n' : xs.length < 1000) (q : PyData → List Slot → Prop) (e) (h : ∀ x ∈ xs, q x [.st, .v (.list xs)]) : callD T (d + 2) 16 [.st, .v (.list xs)] q e := by
  rw [callD_s (fi := F_law_pick) rfl, F_law_pick, runF_code]
  have l0 := List.length_pos_iff.mpr n
  simp [-primD]
  by_cases h1 : xs.length = 1
  · rw [h1]
    have e0 : L2.atI xs 0 = some xs[0] := atI_nat xs 0 l0
    show callD T (d + 1) 15 [.st, .v (.int 1)] _ _
    rw [take_one, asI_i, e0]
    exact h _ (List.getElem_mem l0)
  · rw [c_take d _ (by omega) (by omega)]
    intro k hk
    have hk : k < xs.length := by omega
    rw [asI_i, atI_nat xs k hk]
    exact h _ (List.getElem_mem hk)
/-- a comprehension that draws -/
theorem cmpF_draw {P : PyData → Prop} {F : PyData → (List PyData → Prop) → Prop} : ∀ (l : List PyData), (∀ a ∈ l, ∀ k, (∀ p, P p → k [p]) → F a k) → ∀ K : List PyData → Prop, (∀ ps, ps.length = l.length → (∀ p ∈ ps, P p) → K ps) → cmpF F l K
  | [], _, K, h => h [] rfl (fun p m => by cases m)
  | a :: l, hF, K, h => by
    rw [cmpF]
    refine hF a List.mem_cons_self _ fun p hp => ?_
    refine cmpF_draw l (fun a m => hF a (List.mem_cons_of_mem _ m)) _ fun ps hl hps => ?_
    refine h _ (by simp [hl]) fun x m => ?_
    rcases List.mem_cons.mp m with rfl | m
    · exact hp
    · exact hps x m
/-- places drawn for given spots -/
theorem cmpF_spot {κ : Type} (enc : κ → PyData) (sp : κ → Int × Int) {F : PyData → (List PyData → Prop) → Prop} : ∀ (l : List κ), (∀ a ∈ l, ∀ k, (∀ f : Int, 0 ≤ f → f ≤ 3 → k [pl ⟨(sp a).1, (sp a).2, f⟩]) → F (enc a) k) → ∀ K : List PyData → Prop,
    (∀ g : List Pl, g.map (fun p => (p.a, p.b)) = l.map sp → (∀ p ∈ g, 0 ≤ p.c ∧ p.c ≤ 3) → K (g.map pl)) → cmpF F (l.map enc) K
  | [], _, K, h => h [] rfl (fun p m => by cases m)
  | a :: l, hF, K, h => by
    rw [List.map_cons, cmpF]
    refine hF a List.mem_cons_self _ fun f f0 f1 => ?_
    refine cmpF_spot enc sp l (fun a m => hF a (List.mem_cons_of_mem _ m)) _ fun g hg hc => ?_
    refine h (⟨(sp a).1, (sp a).2, f⟩ :: g) (by simp [hg]) fun x m => ?_
    rcases List.mem_cons.mp m with rfl | m
    · exact ⟨f0, f1⟩
    · exact hc x m
def NL (l : List Nat) : PyData := .list (l.map fun k : Nat => .int (k : Int))
theorem b_goals (d : Nat) (S K : Slot) (ls os : List Nat) (n : ls ≠ []) (n1 : ls.length < 1000) (n2 : os.length < 1000) (Q : Fl → Prop) (E : Ex → Env → Prop) (h : ∀ x ∈ ls, Q (.nx [.st, S, .v (NL (ls.filter fun y => decide (y ≠ x))), .own (NL (os ++ [x])), K, .v (.int (x : Int)), .un, .un, .un])) :
    evSs (callD T (d + 2)) B_law_goals_1 [.st, S, .v (NL ls), .own (NL os), K, .un, .un, .un, .un] Q E := by
  simp only [B_law_goals_1, evSs, evS, evE, evAr, slotS_s, slotV_v, List.getElem?_cons_succ, List.getElem?_cons_zero]
  refine c_pick d _ (by simpa [NL] using n) (by simpa using n1) _ _ fun y0 hy0 => ?_
  obtain ⟨x, hx, rfl⟩ := List.mem_map.mp hy0
  have L : (os.map fun k : Nat => PyData.int (k : Int)).length < LIM := by rw [List.length_map]; show _ < 1000000; omega
  simp only [seqK_n, List.set_cons_succ, List.set_cons_zero, evSs, evS, evE, slotO_o, slotV_v, List.getElem?_cons_succ, List.getElem?_cons_zero, NL, asL_l]
  refine ⟨L, ?_⟩
  simp only [evI, evE, slotV_v, List.getElem?_cons_succ, List.getElem?_cons_zero, asS_l, tgs, wipeE, List.set_cons_succ, List.set_cons_zero]
  refine (cf (fun k : Nat => PyData.int (k : Int)) (fun k : Nat => .int (k : Int)) (fun y => decide (y ≠ x)) (fun y _ k => ?_)).mpr ?_
  · simp only [setTg, List.set_cons_succ, List.set_cons_zero, slotV_v, List.getElem?_cons_succ, List.getElem?_cons_zero, cmpD, fit_i, eqv_i, Bool.and_self, true_and, asB_b]
    by_cases e : y = x
    · subst e; simp
    · have : ¬ (y : Int) = x := by omega
      simp [e, this]
  · have := h x hx
    simp only [NL, List.map_append, List.map_cons, List.map_nil] at this
    exact this
theorem goals_loop (d : Nat) (S : Slot) (E : Ex → Env → Prop) (Q : Fl → Prop) : ∀ (rs : List PyData) (ls os : List Nat), ls.Nodup → ls.length = rs.length → ls.length + os.length < 1000 → (∀ os' : List Nat, os'.Perm (os ++ ls) → Q (.nx [.st, S, .v (NL []), .own (NL os'), .un, .un, .un, .un, .un])) →
    forL (.nm 4) [4, 5, 8] (fun ρ1 q => evSs (callD T (d + 2)) B_law_goals_1 ρ1 q E) rs [.st, S, .v (NL ls), .own (NL os), .un, .un, .un, .un, .un] Q := by
  intro rs
  induction rs with
  | nil =>
    intro ls os nd hl _ h
    obtain rfl := List.eq_nil_of_length_eq_zero hl
    exact h os (by simp)
  | cons r rs ih =>
    intro ls os nd hl hn h
    rw [forL]
    simp only [setTg, List.set_cons_succ, List.set_cons_zero]
    refine b_goals d S _ ls os (fun z => by rw [z] at hl; simp at hl) (by omega) (by omega) _ _ fun x hx => ?_
    simp only [turnK_n, wipeE, List.set_cons_succ, List.set_cons_zero]
    have pm : ls.Perm (x :: ls.filter fun y => decide (y ≠ x)) := by
      have h1 := List.perm_cons_erase hx
      have h2 := nd.erase_eq_filter x
      rw [h2] at h1
      have : (ls.filter fun y => decide (y ≠ x)) = ls.filter (fun y => y != x) := List.filter_congr fun y _ => by by_cases e : y = x <;> simp [e]
      rw [this]
      exact h1
    have hl2 := pm.length_eq
    simp only [List.length_cons] at hl2 hl
    refine ih _ (os ++ [x]) (nd.filter _) (by omega) (by rw [List.length_append, List.length_cons, List.length_nil]; omega) fun os' hp => h os' ?_
    refine hp.trans ?_
    rw [List.append_assoc]
    exact (List.Perm.append_left os pm.symm)
/-- spots exchanged, facings turned -/
theorem c_goals (d : Nat) (l : List Pl) (n1 : 1 ≤ l.length) (n2 : l.length ≤ 100) (ok : ∀ p ∈ l, OkP p) (sp : Spots l) (q : PyData → List Slot → Prop) (e) (hq : ∀ g : List Pl, g.length = l.length → (∀ p ∈ g, OkP p) → Spots g → q (pls g) [.st, .v (pls l)]) : callD T (d + 3) 17 [.st, .v (pls l)] q e := by
  rw [callD_s (fi := F_law_goals) rfl, F_law_goals, runF_code]
  have e6 : ∀ k, lenD (pls l) k = k l.length := fun k => by simp [pls]
  have K1 : (-(LIM : Int)) ≤ l.length := by show (-1000000 : Int) ≤ _; omega
  have K2 : (l.length : Int) ≤ LIM := by show _ ≤ (1000000 : Int); omega
  have rg : Pv.range 0 l.length = (List.range l.length).map fun k : Nat => PyData.int (k : Int) := by simp [Pv.range]
  have rgN : PyData.list (Pv.range 0 l.length) = NL (List.range l.length) := by rw [rg]; rfl
  have nil : PyData.list [] = NL [] := rfl
  refine ⟨rfl, ?_⟩
  simp only [evSs, evS, evI, evE, evEs, slotV_v, List.cons_append, List.nil_append, List.getElem?_cons_succ, List.getElem?_cons_zero, pr_len, e6, asI_i, K1, K2, and_self, true_and, Int.toNat_natCast, setsL_c, setsL_n, List.set_cons_succ, List.set_cons_zero, if_true, if_false, Bool.false_eq_true, seqK_n, List.length_cons, List.length_nil, List.replicate, Nat.sub_zero, Nat.reduceSub, Nat.zero_add, Nat.reduceAdd, rgN, nil]
  refine goals_loop d (.v (pls l)) _ _ _ (List.range l.length) [] List.nodup_range (by rw [rg]; simp) (by simp; omega) fun os hp => ?_
  rw [List.nil_append] at hp
  simp only [seqK_n, evAr, evE, slotS_s, List.getElem?_cons_succ, List.getElem?_cons_zero]
  rw [c_take _ 4 (by omega) (by omega)]
  intro f1 hf1
  rw [c_take _ 3 (by omega) (by omega)]
  intro f2 hf2
  simp only [cmpD, fit_i, Bool.and_self, true_and, setsL_c, setsL_n, List.set_cons_succ, List.set_cons_zero, if_true, if_false, Bool.false_eq_true, seqK_n, evEs, evI, evE, slotO_o, List.getElem?_cons_succ, List.getElem?_cons_zero, NL, asS_l, tgs, wipeE]
  have ol : os.length = l.length := by rw [hp.length_eq, List.length_range]
  have om : ∀ k ∈ os, k < l.length := fun k hk => List.mem_range.mp (hp.mem_iff.mp hk)
  refine cmpF_spot (fun k : Nat => PyData.int (k : Int)) (fun k => ((l.getD k ⟨0, 0, 0⟩).a, (l.getD k ⟨0, 0, 0⟩).b)) os (fun k hk K h => ?_) _ fun g hg hc => ?_
  · have hk := om k hk
    have ek : L2.atI (l.map pl) (k : Int) = some (pl (l.getD k ⟨0, 0, 0⟩)) := by
      rw [atI_nat _ _ (by simpa using hk)]
      simp [hk]
    generalize l.getD k ⟨0, 0, 0⟩ = p at h ek
    have cutp : ∀ K, cutD (pl p) none (some 2) K = K (.tuple [.int p.a, .int p.b]) := fun _ => rfl
    have i2 : ∀ K, ixD (pl p) (.int 2) K = K (.int p.c) := fun _ => rfl
    have ixl : ∀ K, ixD (pls l) (.int (k : Int)) K = K (pl p) := fun K => by show asO (L2.atI (l.map pl) (k : Int)) K = _; rw [ek]; rfl
    have cat : ∀ f : Int, ∀ K, opD .add (.tuple [.int p.a, .int p.b]) (.tuple [.int f]) K = K (pl ⟨p.a, p.b, f⟩) := fun f K => by
      show ((2 + 1 ≤ LIM) ∧ _) = _
      rw [eq_true (by decide : 2 + 1 ≤ LIM), true_and]
      rfl
    simp only [setTg, List.set_cons_succ, List.set_cons_zero, asB_b, if_true, slotV_v, List.getElem?_cons_succ, List.getElem?_cons_zero, ixl, isNo, asP_n, asP_i, cutp, i2]
    by_cases hf : f2 = 0
    · subst hf
      have z : PyData.eqv (.int ((0 : Nat) : Int)) (.int 0) = true := by decide
      simp only [z, asB_b, if_true, slotS_s, evAr, evE]
      rw [c_take _ 4 (by omega) (by omega)]
      intro f hf
      simp only [opD_add, pr_int, intD_i, opD_mod, cat]
      exact ⟨by omega, h _ (by omega) (by omega)⟩
    · have z : PyData.eqv (.int (f2 : Int)) (.int 0) = false := by rw [eqv_i]; exact decide_eq_false (by omega)
      simp only [z, asB_b, if_false, Bool.false_eq_true, slotV_v, List.getElem?_cons_succ, List.getElem?_cons_zero, opD_add, pr_int, intD_i, opD_mod, cat]
      exact ⟨by omega, h _ (by omega) (by omega)⟩
  · have gl : g.length = l.length := by have := congrArg List.length hg; simpa [ol] using this
    refine hq g gl (fun p m => ?_) ?_
    · obtain ⟨h1, h2⟩ := hc p m
      have : (p.a, p.b) ∈ os.map fun k => ((l.getD k ⟨0, 0, 0⟩).a, (l.getD k ⟨0, 0, 0⟩).b) := hg ▸ List.mem_map.mpr ⟨p, m, rfl⟩
      obtain ⟨k, hk, he⟩ := List.mem_map.mp this
      have hk := om k hk
      have mm : l.getD k ⟨0, 0, 0⟩ ∈ l := by simp [hk]
      have o := ok _ mm
      simp only [Prod.mk.injEq] at he
      obtain ⟨⟨a1, a2⟩, ⟨b1, b2⟩, _⟩ := o
      exact ⟨⟨by omega, by omega⟩, ⟨by omega, by omega⟩, h1, h2⟩
    · show (g.map fun p => (p.a, p.b)).Nodup
      rw [hg]
      have e1 : (os.map fun k => ((l.getD k ⟨0, 0, 0⟩).a, (l.getD k ⟨0, 0, 0⟩).b)).Perm (l.map fun p => (p.a, p.b)) := by
        refine (hp.map _).trans ?_
        have : ((List.range l.length).map fun k => ((l.getD k ⟨0, 0, 0⟩).a, (l.getD k ⟨0, 0, 0⟩).b)) = l.map fun p => (p.a, p.b) := by
          refine List.ext_getElem (by simp) fun i h h' => ?_
          have hi : i < l.length := by simpa using h
          simp [hi]
        rw [this]
      exact e1.nodup_iff.mpr sp
end Pv
set_option linter.all false
set_option maxRecDepth 100000
set_option maxHeartbeats 4000000
namespace Pv
open PySem PySem.W
theorem strL_nil {l : List Str} (h : l ≠ []) : PyData.eqv (strL l) (.list []) = false := by
  have : PyData.eqv (strL l) (strL []) = decide (l = []) := Datum.eqv l ([] : List Str)
  rw [decide_eq_false h] at this
  exact this
theorem pick_str (d : Nat) (l : List Str) (n : l ≠ []) (n' : l.length < 1000) (q : PyData → List Slot → Prop) (e) (h : ∀ x ∈ l, q (.str x) [.st, .v (strL l)]) : callD T (d + 2) 16 [.st, .v (strL l)] q e := by
  refine c_pick d _ (by simpa using n) (by simpa using n') q e fun y hy => ?_
  obtain ⟨x, hx, rfl⟩ := List.mem_map.mp hy
  exact h x hx
theorem c_lprog (cs gs : List Str) (nc : cs ≠ []) (ng : gs ≠ []) (lc : cs.length < 1000) (lg : gs.length < 1000) : ∀ (n d : Nat) (q : PyData → List Slot → Prop) (e), (∀ p, Pr cs gs n p → q p [.st, .v (strL cs), .v (strL gs), .v (.int (n : Int))]) → callD T (d + n + 3) 18 [.st, .v (strL cs), .v (strL gs), .v (.int (n : Int))] q e := by
  have f1 := strL_nil nc
  have f2 := strL_nil ng
  have g1 := fit_strL cs
  have g2 := fit_strL gs
  have g3 : fit (.list []) = true := by decide
  have turn3 : PyData.list [.str "left", .str "right", .str "about"] = strL ["left", "right", "about"] := rfl
  intro n
  induction n with
  | zero =>
    intro d q e h
    rw [callD_s (fi := F_law_program) rfl, F_law_program, runF_code]
    refine ⟨rfl, ?_⟩
    simp (config := { decide := true }) [-primD, c_take, f1, g1, g3, turn3]
    intro s hs
    by_cases h7 : (s : Int) < 7
    · rw [if_pos h7]
      exact pick_str d cs nc lc _ _ fun x hx => h _ (.call hx)
    · rw [if_neg h7]
      exact pick_str d ["left", "right", "about"] (by simp) (by simp) _ _ fun x hx => h _ (.turn hx)
  | succ n ih =>
    intro d q e h
    have pos : (0 : Int) < ((n + 1 : Nat) : Int) := by omega
    have pre : ((n + 1 : Nat) : Int) - 1 = n := by omega
    rw [show d + (n + 1) + 3 = (d + n + 3) + 1 by omega, callD_s (fi := F_law_program) rfl, F_law_program, runF_code]
    generalize hN : ((n + 1 : Nat) : Int) = N at pos pre h ⊢
    refine ⟨rfl, ?_⟩
    simp (config := { decide := true }) [-primD, c_take, f1, f2, g1, g2, g3, turn3, pos, pre, eqv_i, fit_i]
    intro s hs
    split
    · intro k hk
      exact ih d _ _ fun p hp => h _ (.times (by omega) (by omega) hp)
    split
    · refine pick_str (d + n + 1) gs ng lg _ _ fun x hx => ?_
      exact ih d _ _ fun p hp => h _ (.only hx hp)
    split
    · intro k hk
      refine ⟨⟨by omega, by omega⟩, ?_⟩
      refine cmpF_draw (P := Pr cs gs n) _ (fun a _ K hK => ih d _ _ fun p hp => hK p hp) _ fun ps hl hps => ?_
      have hl : ps.length = 2 + k := by rw [hl]; simp [Pv.range]; omega
      exact h _ (.row (by omega) (by omega) hps)
    split
    · exact pick_str (d + n + 1) cs nc lc _ _ fun x hx => h _ (.call hx)
    · exact pick_str (d + n + 1) ["left", "right", "about"] (by simp) (by simp) _ _ fun x hx => h _ (.turn hx)
/-! ### dances drawn -/
def onL : List Str := ["swap", "pass", "spin"]
def asL2 : List Str := ["trade", "roll"]
def dL : List Str := ["a", "b", "c", "d"]
def spotL : List (Int × Int) := [(0, 0), (1, 0), (0, 1), (1, 1)]
section
variable (d : Nat) (A B C D E0 : Slot) (G S : PyData)
theorem b_d1 (k : Nat) (hk : k < 3) (cl : List (Str × PyData)) (hl : cl.length < 1000) (gs : List Str) (w : Wf gs cl) (Q : Fl → Prop) (E : Ex → Env → Prop) (X12 : Slot)
    (h : ∀ t X Y, Wf gs (cl ++ [(onL.getD k "", t)]) → Q (.nx [.st, A, B, C, D, E0, .v G, .v (.tuple (ss4.map pairT)), .own (.list ((cl ++ [(onL.getD k "", t)]).map pairT)), .v (.int (k : Int)), X, Y, X12])) :
    evSs (callD T (d + 4)) B_law_dance_1 [.st, A, B, C, D, E0, .v G, .v (.tuple (ss4.map pairT)), .own (.list (cl.map pairT)), .v (.int (k : Int)), .un, .un, X12] Q E := by
  simp only [B_law_dance_1, evSs, evS, evE, evEs, evAr, slotS_s, slotV_v, List.getElem?_cons_succ, List.getElem?_cons_zero, pr_lst, asS_t]
  refine c_pick (d + 2) _ (by decide) (by decide) _ _ fun y hy => ?_
  obtain ⟨a, ha, rfl⟩ := List.mem_map.mp hy
  obtain ⟨⟨s, l⟩, hb, rfl⟩ := List.mem_map.mp ha
  simp only [pairT, asT_t, List.length_cons, List.length_nil, true_and, setAll, List.set_cons_succ, List.set_cons_zero, seqK_n, evSs, evS, evE, evEs, evAr, slotS_s, slotO_o, slotV_v, List.getElem?_cons_succ, List.getElem?_cons_zero, asL_l, ixD_l, asI_i]
  have ek : L2.atI [PyData.str "swap", .str "pass", .str "spin"] (k : Int) = some (.str (onL.getD k "")) := by
    have : k = 0 ∨ k = 1 ∨ k = 2 := by omega
    rcases this with rfl | rfl | rfl <;> rfl
  rw [ek, asO_s]
  have sl := sh4_len hb
  have ok : (∀ p ∈ l, OkP p) ∧ Spots l := by
    simp only [sh4, List.mem_cons, List.not_mem_nil, or_false, Prod.mk.injEq] at hb
    rcases hb with ⟨_, rfl⟩ | ⟨_, rfl⟩ | ⟨_, rfl⟩ | ⟨_, rfl⟩ <;> decide
  refine c_goals (d + 1) l sl.1 (by omega) ok.1 ok.2 _ _ fun g h1 h2 h3 => ?_
  refine ⟨by rw [List.length_map]; show _ < 1000000; omega, ?_⟩
  have := h _ (.v (.str s)) (.v (pls l)) (.on w hb h1 h2 h3)
  rw [List.map_append] at this
  exact this
theorem d1_loop (gs : List Str) (E : Ex → Env → Prop) (Q : Fl → Prop) (X12 : Slot) : ∀ (rem k : Nat), k + rem ≤ 3 → ∀ cl : List (Str × PyData), Wf gs cl → cl.map (·.1) = onL.take k →
    (∀ cl', Wf gs cl' → cl'.map (·.1) = onL.take (k + rem) → Q (.nx [.st, A, B, C, D, E0, .v G, .v (.tuple (ss4.map pairT)), .own (.list (cl'.map pairT)), .un, .un, .un, X12])) →
    forL (.nm 9) [9, 10, 11] (fun ρ1 q => evSs (callD T (d + 4)) B_law_dance_1 ρ1 q E) ((List.range' k rem).map fun i : Nat => PyData.int (i : Int)) [.st, A, B, C, D, E0, .v G, .v (.tuple (ss4.map pairT)), .own (.list (cl.map pairT)), .un, .un, .un, X12] Q := by
  intro rem
  induction rem with
  | zero => intro k hk cl w hn h; exact h cl w hn
  | succ rem ih =>
    intro k hk cl w hn h
    have cln : cl.length = k := by
      have := congrArg List.length hn
      simp [onL] at this
      omega
    rw [List.range'_succ, List.map_cons, forL]
    simp only [setTg, List.set_cons_succ, List.set_cons_zero]
    refine b_d1 d A B C D E0 G k (by omega) cl (by omega) gs w _ _ X12 fun t X Y w' => ?_
    simp only [turnK_n, wipeE, List.set_cons_succ, List.set_cons_zero]
    refine ih (k + 1) (by omega) _ w' ?_ fun cl' w2 h2 => h cl' w2 (by rw [h2]; congr 1; omega)
    rw [List.map_append, hn]
    have : k = 0 ∨ k = 1 ∨ k = 2 := by omega
    rcases this with rfl | rfl | rfl <;> rfl
end
end Pv
set_option linter.all false
set_option maxRecDepth 100000
set_option maxHeartbeats 4000000
namespace Pv
open PySem PySem.W
section
variable (d : Nat) (A B C D E0 : Slot) (gl : List (Str × PyData)) (S : PyData)
theorem b_d2 (k : Nat) (hk : k < 2) (cl : List (Str × PyData)) (hl : cl.length < 900) (ne : cl ≠ []) (hg : gl.map (·.1) = (["men", "all"] : List Str)) (w : Wf ["men", "all"] cl) (Q : Fl → Prop) (E : Ex → Env → Prop)
    (h : ∀ t X, Wf ["men", "all"] (cl ++ [(asL2.getD k "", t)]) → Q (.nx [.st, A, B, C, D, E0, .v (.tuple (gl.map pairT)), .v S, .own (.list ((cl ++ [(asL2.getD k "", t)]).map pairT)), .v (.int (k : Int)), .un, .un, X])) :
    evSs (callD T (d + 5)) B_law_dance_2 [.st, A, B, C, D, E0, .v (.tuple (gl.map pairT)), .v S, .own (.list (cl.map pairT)), .v (.int (k : Int)), .un, .un, .un] Q E := by
  simp only [B_law_dance_2, evSs, evS, evE, evEs, evAr, evI, slotS_s, slotO_o, slotV_v, List.getElem?_cons_succ, List.getElem?_cons_zero, asS_l, asS_t, tgs, List.cons_append, List.nil_append, wipeE, List.set_cons_succ, List.set_cons_zero]
  rw [names_F cl _ fun a _ k => by simp [pairT]]
  rw [names_F gl _ fun a _ k => by simp [pairT]]
  rw [hg]
  have ln : cl.map (·.1) ≠ [] := by simpa using ne
  have lp : ∀ q e, (∀ p, Pr (cl.map (·.1)) ["men", "all"] 2 p → q p [.st, .v (strL (cl.map (·.1))), .v (strL ["men", "all"]), .v (.int 2)]) → callD T (d + 5) 18 [.st, .v (strL (cl.map (·.1))), .v (strL ["men", "all"]), .v (.int 2)] q e := by
    have := c_lprog (cl.map (·.1)) ["men", "all"] ln (by simp) (by rw [List.length_map]; omega) (by simp) 2 d
    exact this
  have e1 : PyData.list ((cl.map (·.1)).map .str) = strL (cl.map (·.1)) := rfl
  have e2 : PyData.list ((["men", "all"] : List Str).map .str) = strL ["men", "all"] := rfl
  rw [e1, e2]
  refine lp _ _ fun p hp => ?_
  simp only [seqK_n, List.set_cons_succ, List.set_cons_zero, evSs, evS, evE, evEs, slotO_o, slotV_v, List.getElem?_cons_succ, List.getElem?_cons_zero, asL_l, ixD_l, asI_i]
  have ek : L2.atI [PyData.str "trade", .str "roll"] (k : Int) = some (.str (asL2.getD k "")) := by
    have : k = 0 ∨ k = 1 := by omega
    rcases this with rfl | rfl <;> rfl
  rw [ek, asO_s]
  refine ⟨by rw [List.length_map]; show _ < 1000000; omega, ?_⟩
  have := h _ (.v p) (.as w hp)
  rw [List.map_append] at this
  exact this
theorem d2_loop (a : Nat) (a1 : 1 ≤ a) (a3 : a ≤ 3) (hg : gl.map (·.1) = (["men", "all"] : List Str)) (E : Ex → Env → Prop) (Q : Fl → Prop) : ∀ (rem k : Nat), k + rem ≤ 2 → ∀ cl : List (Str × PyData), Wf ["men", "all"] cl → cl.map (·.1) = onL.take a ++ asL2.take k →
    (∀ cl', Wf ["men", "all"] cl' → cl'.map (·.1) = onL.take a ++ asL2.take (k + rem) → Q (.nx [.st, A, B, C, D, E0, .v (.tuple (gl.map pairT)), .v S, .own (.list (cl'.map pairT)), .un, .un, .un, .un])) →
    forL (.nm 9) [9, 10, 11, 12] (fun ρ1 q => evSs (callD T (d + 5)) B_law_dance_2 ρ1 q E) ((List.range' k rem).map fun i : Nat => PyData.int (i : Int)) [.st, A, B, C, D, E0, .v (.tuple (gl.map pairT)), .v S, .own (.list (cl.map pairT)), .un, .un, .un, .un] Q := by
  intro rem
  induction rem with
  | zero => intro k hk cl w hn h; exact h cl w hn
  | succ rem ih =>
    intro k hk cl w hn h
    have cln : cl.length = a + k := by
      have := congrArg List.length hn
      simp [onL, asL2] at this
      omega
    rw [List.range'_succ, List.map_cons, forL]
    simp only [setTg, List.set_cons_succ, List.set_cons_zero]
    refine b_d2 d A B C D E0 gl S k (by omega) cl (by omega) (by rintro rfl; simp at cln; omega) hg w _ _ fun t X w' => ?_
    simp only [turnK_n, wipeE, List.set_cons_succ, List.set_cons_zero]
    refine ih (k + 1) (by omega) _ w' ?_ fun cl' w2 h2 => h cl' w2 (by rw [h2]; congr 2; omega)
    rw [List.map_append, hn, List.append_assoc]
    congr 1
    have : k = 0 ∨ k = 1 := by omega
    rcases this with rfl | rfl <;> rfl
end
def evs (ds : List Str) : List Str := stepG 2 ds
def gps (ds : List Str) : List (Str × List Str) := [("men", evs ds), ("all", ds)]
/-- a dance as it is drawn -/
structure Dn where
  m : Nat
  st : List Pl
  cl : List (Str × PyData)
  a : Nat
  b : Nat
structure DnOk (D : Dn) : Prop where
  m2 : 2 ≤ D.m
  m4 : D.m ≤ 4
  a1 : 1 ≤ D.a
  a3 : D.a ≤ 3
  b2 : D.b ≤ 2
  sp : D.st.map (fun p => (p.a, p.b)) = spotL.take D.m
  fc : ∀ p ∈ D.st, FcOk p
  wf : Wf ["men", "all"] D.cl
  nm : D.cl.map (·.1) = onL.take D.a ++ asL2.take D.b
def Dn.ds (D : Dn) : List Str := dL.take D.m
def Dn.val (D : Dn) : PyData := dnc (dsT D.ds) ((gps D.ds).map grp) (.tuple (ss4.map pairT)) D.cl (pls D.st)
theorem stepG_map {α β : Type} (f : α → β) (k : Int) (xs : List α) : stepG k (xs.map f) = (stepG k xs).map f := by
  unfold stepG
  rw [List.length_map, List.map_filterMap]
  congr 1
  funext m
  rw [List.getElem?_map]
theorem c_ldance (d : Nat) (q : PyData → List Slot → Prop) (e) (h : ∀ D : Dn, DnOk D → q D.val [.st, .v (.bool false)]) : callD T (d + 6) 19 [.st, .v (.bool false)] q e := by
  rw [callD_s (fi := F_law_dance) rfl, F_law_dance, runF_code]
  refine ⟨rfl, ?_⟩
  simp only [evSs, evS, evE, evEs, evAr, slotS_s, slotV_v, List.cons_append, List.nil_append, List.getElem?_cons_succ, List.getElem?_cons_zero, List.length_cons, List.length_nil, List.replicate, Nat.sub_zero, Nat.reduceSub, Nat.zero_add, Nat.reduceAdd]
  rw [c_take _ 3 (by omega) (by omega)]
  intro m0 hm0
  simp only [opD_add, seqK_n, List.set_cons_succ, List.set_cons_zero, evE, evEs, evAr, slotS_s, slotV_v, List.getElem?_cons_succ, List.getElem?_cons_zero, isNo, asP_n, asP_i]
  have mc : m0 = 0 ∨ m0 = 1 ∨ m0 = 2 := by omega
  have cutm : ∀ k, cutD (.tuple [.str "a", .str "b", .str "c", .str "d"]) none (some (2 + (m0 : Int))) k = k (dsT (dL.take (m0 + 2))) := fun k => by rcases mc with rfl | rfl | rfl <;> rfl
  rw [cutm, c_take _ 4 (by omega) (by omega)]
  intro b hb
  have rg : Pv.range 0 (2 + (m0 : Int)).toNat = (List.range (m0 + 2)).map fun k : Nat => PyData.int (k : Int) := by
    rw [show (2 + (m0 : Int)).toNat = m0 + 2 by omega]
    simp [Pv.range]
  have K1 : (-(LIM : Int)) ≤ 2 + (m0 : Int) := by show (-1000000 : Int) ≤ _; omega
  have K2 : 2 + (m0 : Int) ≤ LIM := by show _ ≤ (1000000 : Int); omega
  simp only [setsL_c, setsL_n, List.set_cons_succ, List.set_cons_zero, if_false, Bool.false_eq_true, evI, evE, slotV_v, List.getElem?_cons_succ, List.getElem?_cons_zero, asI_i, K1, K2, and_self, true_and, rg, tgs, wipeE]
  refine cmpF_spot (fun k : Nat => PyData.int (k : Int)) (fun k => spotL.getD k (0, 0)) _ (fun k hk K hK => ?_) _ fun g hg hc => ?_
  · have hk : k < m0 + 2 := List.mem_range.mp hk
    have kc : k = 0 ∨ k = 1 ∨ k = 2 ∨ k = 3 := by omega
    have i1 : ∀ K, ixD (.list [.int 0, .int 1, .int 0, .int 1]) (.int (k : Int)) K = K (.int (spotL.getD k (0, 0)).1) := fun K => by rcases kc with rfl | rfl | rfl | rfl <;> rfl
    have i2 : ∀ K, ixD (.list [.int 0, .int 0, .int 1, .int 1]) (.int (k : Int)) K = K (.int (spotL.getD k (0, 0)).2) := fun K => by rcases kc with rfl | rfl | rfl | rfl <;> rfl
    simp only [setTg, List.set_cons_succ, List.set_cons_zero, asB_b, if_true, slotV_v, slotS_s, List.getElem?_cons_succ, List.getElem?_cons_zero, i1, i2]
    rw [c_take _ 2 (by omega) (by omega)]
    intro n hn
    simp only [opD_mul, opD_add, pr_int, intD_i, opD_mod]
    exact ⟨.inl ⟨by omega, by omega⟩, by omega, hK _ (by omega) (by omega)⟩
  have Lg : (stepG 2 ((dL.take (m0 + 2)).map PyData.str)).length ≤ LIM := by rcases mc with rfl | rfl | rfl <;> decide
  simp only [pr_tup, asS_l, List.set_cons_succ, List.set_cons_zero, slotV_v, slotO_o, List.getElem?_cons_succ, List.getElem?_cons_zero, asB_b, if_false, Bool.false_eq_true, asT_t, Lg, true_and, asL_l, evI, evE, evAr, slotS_s, asI_i]
  rw [c_take _ 3 (by omega) (by omega)]
  intro a0 ha0
  have eg : PyData.tuple [.tuple [.str "men", .tuple (stepG 2 ((dL.take (m0 + 2)).map PyData.str))], .tuple [.str "all", dsT (dL.take (m0 + 2))]] = .tuple (((gps (dL.take (m0 + 2))).map grp).map pairT) := by
    rw [stepG_map]; rfl
  have es : PyData.tuple [.tuple [.str "single", .tuple [.tuple [.int 0, .int 0, .int 0]]], .tuple [.str "pair", .tuple [.tuple [.int 0, .int 0, .int 0], .tuple [.int 1, .int 0, .int 0]]], .tuple [.str "face", .tuple [.tuple [.int 0, .int 0, .int 0], .tuple [.int 0, .int 1, .int 2]]], .tuple [.str "tandem", .tuple [.tuple [.int 0, .int 0, .int 0], .tuple [.int 0, .int 1, .int 0]]]] = .tuple (ss4.map pairT) := rfl
  have ec : PyData.list [] = .list ((([] : List (Str × PyData))).map pairT) := rfl
  have rg1 : Pv.range 0 (1 + (a0 : Int)).toNat = (List.range' 0 (a0 + 1)).map fun i : Nat => PyData.int (i : Int) := by
    rw [show (1 + (a0 : Int)).toNat = a0 + 1 by omega, ← List.range_eq_range']
    simp [Pv.range]
  have K3 : (-(LIM : Int)) ≤ 1 + (a0 : Int) := by show (-1000000 : Int) ≤ _; omega
  have K4 : 1 + (a0 : Int) ≤ LIM := by show _ ≤ (1000000 : Int); omega
  rw [eg, es, ec]
  simp only [opD_add, asI_i, K3, K4, and_self, true_and, rg1]
  refine d1_loop (d + 1) (.v (.bool false)) _ _ _ _ _ ["men", "all"] _ _ .un (a0 + 1) 0 (by omega) [] .nil rfl fun cl w hn => ?_
  simp only [seqK_n, slotS_s, List.getElem?_cons_zero]
  rw [c_take _ 3 (by omega) (by omega)]
  intro b0 hb0
  have rg2 : Pv.range 0 ((b0 : Int)).toNat = (List.range' 0 b0).map fun i : Nat => PyData.int (i : Int) := by
    rw [show ((b0 : Int)).toNat = b0 by omega, ← List.range_eq_range']
    simp [Pv.range]
  have K5 : (-(LIM : Int)) ≤ (b0 : Int) := by show (-1000000 : Int) ≤ _; omega
  have K6 : (b0 : Int) ≤ LIM := by show _ ≤ (1000000 : Int); omega
  simp only [asI_i, K5, K6, and_self, true_and, rg2]
  refine d2_loop d _ _ _ _ _ ((gps (dL.take (m0 + 2))).map grp) _ (a0 + 1) (by omega) (by omega) rfl _ _ b0 0 (by omega) cl w (by rw [hn, Nat.zero_add]; simp) fun cl2 w2 hn2 => ?_
  simp only [seqK_n, slotV_v, slotO_o, List.getElem?_cons_succ, List.getElem?_cons_zero, asS_l, seqK_r]
  refine h ⟨m0 + 2, g, cl2, a0 + 1, b0⟩ ⟨by show 2 ≤ m0 + 2; omega, by show m0 + 2 ≤ 4; omega, by show 1 ≤ a0 + 1; omega, by show a0 + 1 ≤ 3; omega, by show b0 ≤ 2; omega, ?_, hc, w2, ?_⟩
  · show g.map (fun p => (p.a, p.b)) = spotL.take (m0 + 2)
    rw [hg]
    rcases mc with rfl | rfl | rfl <;> rfl
  · show cl2.map (·.1) = onL.take (a0 + 1) ++ asL2.take b0
    rw [hn2, Nat.zero_add]
end Pv
set_option linter.all false
namespace Pv
open PySem
def M1 : CS := (.set 3 (.call 19 (.cons (.stn 1) (.cons (.cst (.bool false)) .nil))))
def M2 : CS := (.par [(4, false), (5, false), (6, false)] (.cons (.comp (.nm 11) (.tp [11, 12]) (.seq (.idx (.nm 3) (.cst (.int 4)))) (.cst (.bool true))) (.cons (.comp (.nm 11) (.tp [11, 12]) (.seq (.idx (.nm 3) (.cst (.int 2)))) (.cst (.bool true))) (.cons (.prim .dct (.cons (.prim .lst (.cons (.idx (.nm 3) (.cst (.int 3))) .nil)) .nil)) .nil))))
def M3 : CS := (.ifs (.or (.cmp .isn (.call 6 (.cons (.nm 3) .nil)) (.cst (.bool true))) (.or (.cmp .ne (.prim .lst (.cons (.call 11 (.cons (.nm 3) .nil)) .nil)) (.nm 4)) (.cmp .isn (.call 10 (.cons (.nm 3) (.cons (.idx (.nm 3) (.cst (.int 5))) .nil))) (.cst (.bool true))))) (.cons (.ret (.cst (.bool false))) .nil) .nil)
def M4 : CS := (.set 7 (.call 18 (.cons (.stn 1) (.cons (.nm 4) (.cons (.nm 5) (.cons (.cst (.int 3)) .nil))))))
def M5 : CS := (.ifs (.or (.cmp .isn (.call 3 (.cons (.nm 7) (.cons (.nm 4) (.cons (.nm 5) (.cons (.cst (.int 0)) .nil))))) (.cst (.bool true))) (.cmp .gt (.prim .len (.cons (.comp (.nm 18) (.nm 18) (.seq (.call 23 (.cons (.nm 7) .nil))) (.cmp .isn (.call 3 (.cons (.nm 18) (.cons (.nm 4) (.cons (.nm 5) (.cons (.cst (.int 0)) .nil))))) (.cst (.bool false)))) .nil)) (.cst (.int 0)))) (.cons (.ret (.cst (.bool false))) .nil) .nil)
def M6 : CS := (.ifs (.or (.cmp .isn (.call 12 (.cons (.nm 3) (.cons (.nm 7) .nil))) (.cst (.bool true))) (.or (.cmp .isn (.call 12 (.cons (.nm 3) (.cons (.tup (.cons (.cst (.str "row")) (.cons (.tup (.cons (.nm 7) (.cons (.tup (.cons (.cst (.str "call")) (.cons (.cst (.str "zoo")) .nil))) .nil))) .nil))) .nil))) (.cst (.bool false))) (.cmp .isn (.call 12 (.cons (.nm 3) (.cons (.tup (.cons (.cst (.str "times")) (.cons (.cst (.int 2)) (.cons (.tup (.cons (.cst (.str "only")) (.cons (.cst (.str "zoo")) (.cons (.nm 7) .nil)))) .nil)))) .nil))) (.cst (.bool false))))) (.cons (.ret (.cst (.bool false))) .nil) .nil)
def M7 : CS := (.ifs (.or (.cmp .ne (.call 13 (.cons (.nm 3) (.cons (.nm 7) .nil))) (.call 21 (.cons (.nm 3) (.cons (.nm 7) .nil)))) (.or (.cmp .ne (.call 14 (.cons (.nm 3) (.cons (.nm 7) .nil))) (.call 22 (.cons (.nm 3) (.cons (.nm 7) .nil)))) (.not (.call 20 (.cons (.nm 7) (.cons (.nm 4) (.cons (.nm 5) .nil))))))) (.cons (.ret (.cst (.bool false))) .nil) .nil)
def M8 : CS := (.set 8 (.tup (.cons (.cst (.str "left")) .nil)))
def M9 : CS := (.fors (.nm 9) (.rng (.cst (.int 6))) Blaw_1 [9])
def M10 : CS := (.ifs (.or (.cmp .isn (.call 3 (.cons (.nm 8) (.cons (.nm 4) (.cons (.nm 5) (.cons (.cst (.int 0)) .nil))))) (.cst (.bool true))) (.or (.cmp .isn (.call 3 (.cons (.nm 8) (.cons (.nm 4) (.cons (.nm 5) (.cons (.cst (.int 1)) .nil))))) (.cst (.bool false))) (.cmp .isn (.call 3 (.cons (.tup (.cons (.cst (.str "times")) (.cons (.cst (.int 1)) (.cons (.nm 8) .nil)))) (.cons (.nm 4) (.cons (.nm 5) (.cons (.cst (.int 0)) .nil))))) (.cst (.bool false))))) (.cons (.ret (.cst (.bool false))) .nil) .nil)
def M11 : CS := (.set 10 (.tup (.cons (.cst (.str "row")) (.cons (.tup (.cons (.tup (.cons (.cst (.str "left")) .nil)) (.cons (.tup (.cons (.cst (.str "row")) (.cons (.tup (.cons (.tup (.cons (.cst (.str "left")) .nil)) (.cons (.tup (.cons (.cst (.str "row")) (.cons (.tup (.cons (.tup (.cons (.cst (.str "left")) .nil)) (.cons (.tup (.cons (.cst (.str "right")) .nil)) .nil))) .nil))) .nil))) .nil))) .nil))) .nil))))
def M12 : CS := (.ifs (.or (.cmp .isn (.call 3 (.cons (.nm 10) (.cons (.nm 4) (.cons (.nm 5) (.cons (.cst (.int 4)) .nil))))) (.cst (.bool true))) (.cmp .isn (.call 3 (.cons (.nm 10) (.cons (.nm 4) (.cons (.nm 5) (.cons (.cst (.int 5)) .nil))))) (.cst (.bool false)))) (.cons (.ret (.cst (.bool false))) .nil) .nil)
def M13 : CS := (.ifs (.cmp .isn (.call 3 (.cons (.tup (.cons (.cst (.str "times")) (.cons (.cst (.int 1)) (.cons (.tup (.cons (.cst (.str "row")) (.cons (.tup (.cons (.tup (.cons (.cst (.str "left")) .nil)) (.cons (.tup (.cons (.cst (.str "left")) .nil)) .nil))) .nil))) .nil)))) (.cons (.nm 4) (.cons (.nm 5) (.cons (.cst (.int 5)) .nil))))) (.cst (.bool false))) (.cons (.ret (.cst (.bool false))) .nil) .nil)
def M14 : CS := (.fors (.tp [11, 12]) (.seq (.idx (.nm 3) (.cst (.int 4)))) Blaw_2 [11, 12, 13, 18])
def M15 : CS := (.set 14 (.idx (.nm 3) (.cst (.int 1))))
def M16 : CS := (.set 15 (.lst (.cons (.tup (.cons (.nm 14) (.cons (.cst (.bool true)) .nil))) (.cons (.tup (.cons (.sl (.nm 14) (.cst .none) (.cst (.int 1))) (.cons (.cst (.bool true)) .nil))) (.cons (.tup (.cons (.slp (.nm 14) (-1)) (.cons (.cmp .lt (.prim .len (.cons (.nm 14) .nil)) (.cst (.int 2))) .nil))) (.cons (.tup (.cons (.tup .nil) (.cons (.cst (.bool false)) .nil))) (.cons (.tup (.cons (.bin .add (.nm 14) (.sl (.nm 14) (.cst .none) (.cst (.int 1)))) (.cons (.cst (.bool false)) .nil))) (.cons (.tup (.cons (.tup (.cons (.cst (.str "zoo")) .nil)) (.cons (.cst (.bool false)) .nil))) (.cons (.tup (.cons (.prim .lst (.cons (.nm 14) .nil)) (.cons (.cst (.bool false)) .nil))) (.cons (.tup (.cons (.cst .none) (.cons (.cst (.bool false)) .nil))) .nil))))))))))
def M17 : CS := (.ifs (.cmp .gt (.prim .len (.cons (.comp (.nm 18) (.tp [18, 19]) (.seq (.nm 15)) (.cmp .ne (.call 8 (.cons (.nm 18) (.cons (.nm 14) .nil))) (.nm 19))) .nil)) (.cst (.int 0))) (.cons (.ret (.cst (.bool false))) .nil) .nil)
def M18 : CS := (.set 16 (.idx (.nm 3) (.cst (.int 5))))
def M19 : CS := (.set 13 (.lst (.cons (.sl (.nm 16) (.cst .none) (.neg (.cst (.int 1)))) (.cons (.bin .add (.nm 16) (.tup (.cons (.tup (.cons (.cst (.int 9)) (.cons (.cst (.int 9)) (.cons (.cst (.int 0)) .nil)))) .nil))) (.cons (.prim .lst (.cons (.nm 16) .nil)) (.cons (.bin .mul (.tup (.cons (.idx (.nm 16) (.cst (.int 0))) .nil)) (.prim .len (.cons (.nm 16) .nil))) (.cons (.bin .add (.sl (.nm 16) (.cst .none) (.neg (.cst (.int 1)))) (.tup (.cons (.tup (.cons (.cst (.int 9)) (.cons (.cst (.int 9)) (.cons (.cst (.int 4)) .nil)))) .nil))) (.cons (.bin .add (.sl (.nm 16) (.cst .none) (.neg (.cst (.int 1)))) (.tup (.cons (.tup (.cons (.cst (.int 9)) (.cons (.cst (.bool true)) (.cons (.cst (.int 0)) .nil)))) .nil))) (.cons (.bin .add (.sl (.nm 16) (.cst .none) (.neg (.cst (.int 1)))) (.tup (.cons (.lst (.cons (.cst (.int 9)) (.cons (.cst (.int 9)) (.cons (.cst (.int 0)) .nil)))) .nil))) (.cons (.cst .none) .nil))))))))))
def M20 : CS := (.ifs (.or (.cmp .gt (.prim .len (.cons (.comp (.nm 18) (.nm 18) (.seq (.nm 13)) (.cmp .isn (.call 10 (.cons (.nm 3) (.cons (.nm 18) .nil))) (.cst (.bool false)))) .nil)) (.cst (.int 0))) (.cmp .isn (.call 10 (.cons (.nm 3) (.cons (.bin .add (.sl (.nm 16) (.cst .none) (.neg (.cst (.int 1)))) (.tup (.cons (.tup (.cons (.cst (.int 500)) (.cons (.neg (.cst (.int 500))) (.cons (.cst (.int 3)) .nil)))) .nil))) .nil))) (.cst (.bool true)))) (.cons (.ret (.cst (.bool false))) .nil) .nil)
def M21 : CS := (.set 17 (.lst (.cons (.cst .none) (.cons (.prim .lst (.cons (.nm 3) .nil)) (.cons (.sl (.nm 3) (.cst .none) (.neg (.cst (.int 1)))) (.cons (.bin .add (.tup (.cons (.cst (.str "other")) .nil)) (.sl (.nm 3) (.cst (.int 1)) (.cst .none))) (.cons (.bin .add (.sl (.nm 3) (.cst .none) (.cst (.int 5))) (.tup (.cons (.sl (.nm 16) (.cst .none) (.neg (.cst (.int 1)))) .nil))) (.cons (.bin .add (.bin .add (.sl (.nm 3) (.cst .none) (.cst (.int 1))) (.tup (.cons (.bin .add (.idx (.nm 3) (.cst (.int 1))) (.sl (.idx (.nm 3) (.cst (.int 1))) (.cst .none) (.cst (.int 1)))) .nil))) (.sl (.nm 3) (.cst (.int 2)) (.cst .none))) .nil))))))))
def M22 : CS := (.set 17 (.bin .add (.nm 17) (.lst (.cons (.bin .add (.bin .add (.sl (.nm 3) (.cst .none) (.cst (.int 1))) (.tup (.cons (.tup .nil) .nil))) (.sl (.nm 3) (.cst (.int 2)) (.cst .none))) (.cons (.bin .add (.bin .add (.sl (.nm 3) (.cst .none) (.cst (.int 2))) (.tup (.cons (.tup (.cons (.tup (.cons (.cst (.str "men")) (.cons (.tup (.cons (.cst (.str "zoo")) .nil)) .nil))) .nil)) .nil))) (.sl (.nm 3) (.cst (.int 3)) (.cst .none))) (.cons (.bin .add (.sl (.nm 3) (.cst .none) (.cst (.int 4))) (.tup (.cons (.bin .add (.idx (.nm 3) (.cst (.int 4))) (.sl (.idx (.nm 3) (.cst (.int 4))) (.cst .none) (.cst (.int 1)))) (.cons (.nm 16) .nil)))) .nil))))))
def M23 : CS := (.set 17 (.bin .add (.nm 17) (.lst (.cons (.bin .add (.bin .add (.sl (.nm 3) (.cst .none) (.cst (.int 3))) (.tup (.cons (.bin .add (.tup (.cons (.tup (.cons (.cst (.str "single")) (.cons (.tup .nil) .nil))) .nil)) (.sl (.idx (.nm 3) (.cst (.int 3))) (.cst (.int 1)) (.cst .none))) .nil))) (.sl (.nm 3) (.cst (.int 4)) (.cst .none))) (.cons (.bin .add (.sl (.nm 3) (.cst .none) (.cst (.int 4))) (.tup (.cons (.tup (.cons (.tup (.cons (.cst (.str "zoo")) (.cons (.tup (.cons (.cst (.str "as")) (.cons (.tup (.cons (.cst (.str "call")) (.cons (.cst (.str "zoo")) .nil))) .nil))) .nil))) .nil)) (.cons (.nm 16) .nil)))) .nil)))))
def M24 : CS := (.set 17 (.bin .add (.nm 17) (.lst (.cons (.bin .add (.sl (.nm 3) (.cst .none) (.cst (.int 4))) (.tup (.cons (.tup (.cons (.tup (.cons (.cst (.str "zip")) (.cons (.tup (.cons (.cst (.str "as")) (.cons (.tup (.cons (.cst (.str "call")) (.cons (.cst (.str "zap")) .nil))) .nil))) .nil))) (.cons (.tup (.cons (.cst (.str "zap")) (.cons (.tup (.cons (.cst (.str "as")) (.cons (.tup (.cons (.cst (.str "left")) .nil)) .nil))) .nil))) .nil))) (.cons (.nm 16) .nil)))) (.cons (.bin .add (.sl (.nm 3) (.cst .none) (.cst (.int 5))) (.tup (.cons (.bin .add (.sl (.nm 16) (.cst .none) (.neg (.cst (.int 1)))) (.tup (.cons (.tup (.cons (.cst (.int 21)) (.cons (.cst (.int 0)) (.cons (.cst (.int 0)) .nil)))) .nil))) .nil))) .nil)))))
def M25 : CS := (.set 17 (.bin .add (.nm 17) (.lst (.cons (.bin .add (.sl (.nm 3) (.cst .none) (.cst (.int 4))) (.tup (.cons (.lst .nil) (.cons (.nm 16) .nil)))) (.cons (.bin .add (.bin .add (.sl (.nm 3) (.cst .none) (.cst (.int 2))) (.tup (.cons (.tup (.cons (.tup (.cons (.cst (.str "a")) (.cons (.tup (.cons (.cst (.str "a")) .nil)) .nil))) .nil)) .nil))) (.sl (.nm 3) (.cst (.int 3)) (.cst .none))) .nil)))))
def M26 : CS := (.ifs (.cmp .gt (.prim .len (.cons (.comp (.nm 18) (.nm 18) (.seq (.nm 17)) (.cmp .isn (.call 6 (.cons (.nm 18) .nil)) (.cst (.bool false)))) .nil)) (.cst (.int 0))) (.cons (.ret (.cst (.bool false))) .nil) .nil)
theorem M_rows : Blaw_3 = .cons M1 (.cons M2 (.cons M3 (.cons M4 (.cons M5 (.cons M6 (.cons M7 (.cons M8 (.cons M9 (.cons M10 (.cons M11 (.cons M12 (.cons M13 (.cons M14 (.cons M15 (.cons M16 (.cons M17 (.cons M18 (.cons M19 (.cons M20 (.cons M21 (.cons M22 (.cons M23 (.cons M24 (.cons M25 (.cons M26 (.nil)))))))))))))))))))))))))) := rfl
def J1 : CS := (.ifs (.cmp .isn (.call 9 (.cons (.nm 12) (.cons (.nm 6) (.cons (.nm 4) (.cons (.nm 5) .nil))))) (.cst (.bool true))) (.cons (.ret (.cst (.bool false))) .nil) .nil)
def J2 : CS := (.set 13 (.lst (.cons (.cst .none) (.cons (.prim .lst (.cons (.nm 12) .nil)) (.cons (.sl (.nm 12) (.cst .none) (.cst (.int 1))) (.cons (.bin .add (.tup (.cons (.cst (.str "other")) .nil)) (.sl (.nm 12) (.cst (.int 1)) (.cst .none))) (.cons (.bin .add (.nm 12) (.tup (.cons (.cst (.int 1)) .nil))) .nil)))))))
def J3 : CS := (.ifs (.cmp .eq (.idx (.nm 12) (.cst (.int 0))) (.cst (.str "on"))) (.cons (.set 13 (.bin .add (.nm 13) (.lst (.cons (.tup (.cons (.cst (.str "on")) (.cons (.cst (.str "zoo")) (.cons (.idx (.nm 12) (.cst (.int 2))) .nil)))) (.cons (.tup (.cons (.cst (.str "on")) (.cons (.idx (.nm 12) (.cst (.int 1))) (.cons (.bin .add (.idx (.nm 12) (.cst (.int 2))) (.tup (.cons (.tup (.cons (.cst (.int 9)) (.cons (.cst (.int 9)) (.cons (.cst (.int 0)) .nil)))) .nil))) .nil)))) (.cons (.tup (.cons (.cst (.str "on")) (.cons (.idx (.nm 12) (.cst (.int 1))) (.cons (.prim .lst (.cons (.idx (.nm 12) (.cst (.int 2))) .nil)) .nil)))) (.cons (.tup (.cons (.cst (.str "on")) (.cons (.cst (.int 1)) (.cons (.idx (.nm 12) (.cst (.int 2))) .nil)))) .nil))))))) .nil) .nil)
def J4 : CS := (.ifs (.cmp .gt (.prim .len (.cons (.comp (.nm 18) (.nm 18) (.seq (.nm 13)) (.cmp .isn (.call 9 (.cons (.nm 18) (.cons (.nm 6) (.cons (.nm 4) (.cons (.nm 5) .nil))))) (.cst (.bool false)))) .nil)) (.cst (.int 0))) (.cons (.ret (.cst (.bool false))) .nil) .nil)
theorem J_rows : Blaw_2 = .cons J1 (.cons J2 (.cons J3 (.cons J4 (.nil)))) := rfl
def Z1 : CS := (.fors (.nm 2) (.rng (.cst (.int 4))) Blaw_3 [2, 3, 4, 5, 6, 7, 8, 9, 10, 11, 12, 13, 14, 15, 16, 17, 18, 19])
def Z2 : CS := (.ret (.cst (.bool true)))
theorem Z_rows : lawB = .cons Z1 (.cons Z2 (.nil)) := rfl
end Pv
set_option linter.all false
set_option maxRecDepth 100000
set_option maxHeartbeats 4000000
namespace Pv
open PySem PySem.W
abbrev gN : List Str := ["men", "all"]
def Dn.cn (D : Dn) : List Str := D.cl.map (·.1)
section
variable {D : Dn} (h : DnOk D)
include h
theorem DnOk.three {P : Nat → Nat → Nat → Prop} (hp : ∀ m ∈ [2, 3, 4], ∀ a ∈ [1, 2, 3], ∀ b ∈ [0, 1, 2], P m a b) : P D.m D.a D.b := by
  obtain ⟨m2, m4, a1, a3, b2, _⟩ := h
  refine hp _ ?_ _ ?_ _ ?_
  · have : D.m = 2 ∨ D.m = 3 ∨ D.m = 4 := by omega
    simpa using this
  · have : D.a = 1 ∨ D.a = 2 ∨ D.a = 3 := by omega
    simpa using this
  · have : D.b = 0 ∨ D.b = 1 ∨ D.b = 2 := by omega
    simpa using this
def allN (m a b : Nat) : List Str := dL.take m ++ gN ++ (["single", "pair", "face", "tandem"] : List Str) ++ (onL.take a ++ asL2.take b)
theorem DnOk.names : namesOf D.ds ((gps D.ds).map grp) ss4 D.cl = allN D.m D.a D.b := by
  unfold namesOf allN
  rw [h.nm]
  rfl
theorem DnOk.stlen : D.st.length = D.m := by
  have := congrArg List.length h.sp
  rw [List.length_map, List.length_take] at this
  have h4 := h.m4
  have : spotL.length = 4 := rfl
  omega
theorem DnOk.dslen : D.ds.length = D.m := by
  show (dL.take D.m).length = _
  rw [List.length_take]
  have h4 := h.m4
  have : dL.length = 4 := rfl
  omega
theorem DnOk.cllen : D.cl.length = D.a + D.b := by
  have := congrArg List.length h.nm
  rw [List.length_map] at this
  rw [this]
  exact DnOk.three h (P := fun _ a b => (onL.take a ++ asL2.take b).length = a + b) (by decide)
theorem DnOk.okp : ∀ p ∈ D.st, OkP p := fun p m => by
  have : (p.a, p.b) ∈ spotL.take D.m := h.sp ▸ List.mem_map.mpr ⟨p, m, rfl⟩
  have := List.mem_of_mem_take this
  simp only [spotL, List.mem_cons, List.not_mem_nil, or_false, Prod.mk.injEq] at this
  obtain ⟨c1, c2⟩ := h.fc p m
  exact ⟨⟨by omega, by omega⟩, ⟨by omega, by omega⟩, c1, c2⟩
theorem DnOk.spots : Spots D.st := by
  show (D.st.map fun p => (p.a, p.b)).Nodup
  rw [h.sp]
  exact DnOk.three h (P := fun m _ _ => (spotL.take m).Nodup) (by decide)
theorem DnOk.nmok : NmOk D.ds ((gps D.ds).map grp) ss4 D.cl := by
  have h1 := h.dslen
  have h2 := h.cllen
  have := h.m2; have := h.m4; have := h.a3; have := h.b2
  refine ⟨⟨fun z => by rw [z] at h1; simp at h1; omega, by omega, by simp [gps], by decide, by omega⟩, ?_, ?_⟩
  · rw [h.names]
    exact DnOk.three h (P := fun m a b => ∀ x ∈ allN m a b, nameB x = true) (by decide +kernel)
  · rw [h.names]
    exact DnOk.three h (P := fun m a b => (allN m a b).length ≤ 60) (by decide +kernel)
theorem DnOk.nodup : (namesOf D.ds ((gps D.ds).map grp) ss4 D.cl).Nodup := by
  rw [h.names]
  exact DnOk.three h (P := fun m a b => (allN m a b).Nodup) (by decide +kernel)
theorem DnOk.gsok : ∀ g ∈ gps D.ds, g.2 ≠ [] ∧ g.2 = D.ds.filter fun x => decide (x ∈ g.2) := by
  show ∀ g ∈ gps (dL.take D.m), g.2 ≠ [] ∧ g.2 = (dL.take D.m).filter fun x => decide (x ∈ g.2)
  exact DnOk.three h (P := fun m _ _ => ∀ g ∈ gps (dL.take m), g.2 ≠ [] ∧ g.2 = (dL.take m).filter fun x => decide (x ∈ g.2)) (by decide +kernel)
theorem c_isd (q) (e) : callD T 24 6 [.v D.val] q e = q (.bool true) [.v D.val] := by
  have h1 := h.dslen
  have h2 := h.cllen
  have h3 := h.stlen
  have := h.m2; have := h.m4; have := h.a3; have := h.b2
  have w : Wf ((gps D.ds).map (·.1)) D.cl := h.wf
  have de := dance_end D.ds ((gps D.ds).map grp) ss4 D.cl q e 21 D.st (fun z => by rw [z] at h3; simp at h3; omega) (by omega) h.nmok h.nodup
  rw [if_pos ⟨⟨h.okp, h.spots⟩, by omega⟩] at de
  have ct := fun q e => c_tables D.ds (pls D.st) q e 10 (gps D.ds) h.gsok D.cl (by omega) w
  exact de.trans (ct _ _)
end
end Pv
set_option linter.all false
set_option maxRecDepth 100000
set_option maxHeartbeats 4000000
namespace Pv
open PySem PySem.W
def bentD (p : PyData) (xs : List PyData) : List PyData := [.none, .tuple [], .list xs, .tuple (xs ++ [.int 1]), .tuple [.str "none"], .tuple [.str "call"], .tuple [.str "call", .str "zoo"], .tuple [.str "call", .int 1], .tuple [.str "times", .int 0, p], .tuple [.str "times", .int 21, p],
  .tuple [.str "times", .bool true, p], .tuple [.str "only", .str "zoo", p], .tuple [.str "row", .tuple [p]], .tuple [.str "row", .list [p, p]], .tuple [.str "row", .tuple []], .tuple [.str "row", .tuple [p, p, p, p, p, p, p, p, p, p, p, p, p]],
  .tuple [.str "times", .int 2, .none], .tuple [.str "row", .tuple [p, .none]], .tuple [.str "left", .int 1], .tuple [.int 1], .tuple [.str "only", .str "men"]]
theorem c_bent (d : Nat) (xs : List PyData) (n : xs.length ≤ 10) (q) (e) : callD T (d + 1) 23 [.v (.tuple xs)] q e = q (.list (bentD (.tuple xs) xs)) [.v (.tuple xs)] := by
  rw [callD_s (fi := F_law_bent) rfl, F_law_bent, runF_code]
  have : xs.length + 1 ≤ LIM := by show _ ≤ 1000000; omega
  have r : (List.replicate (Int.toNat 13) [PyData.tuple xs]).flatten = [.tuple xs, .tuple xs, .tuple xs, .tuple xs, .tuple xs, .tuple xs, .tuple xs, .tuple xs, .tuple xs, .tuple xs, .tuple xs, .tuple xs, .tuple xs] := rfl
  simp (config := { decide := true }) [-primD, this, r, -List.reduceReplicate]
  simp [bentD, this, r]
section
variable (d : Nat) (cs gs : List Str) (q : PyData → List Slot → Prop) (e : Ex → List Slot → Prop)
theorem bad4 {n : Nat} {xs : List PyData} (h : Pr cs gs n (.tuple xs)) : callD T (d + 2) 3 [.v (.tuple (xs ++ [.int 1])), .v (strL cs), .v (strL gs), .v (.int 0)] q e = q (.bool false) [.v (.tuple (xs ++ [.int 1])), .v (strL cs), .v (strL gs), .v (.int 0)] := by
  rw [callD_s (fi := Fis_program) rfl, Fis_program, runF_code]
  cases h with
  | times a b hp =>
    simp (config := { decide := true }) [-primD, atc, fit_s, fit_i, eqv_str, eqv_i]
    rw [callD_s (fi := Fis_single) rfl, Fis_single, runF_code]
    simp (config := { decide := true }) [-primD, atc, fit_s, fit_i, eqv_str, eqv_i, cut1, f_tu, m_tu, f_to, m_to]
  | only a hp =>
    simp (config := { decide := true }) [-primD, atc, fit_s, fit_i, eqv_str, eqv_i]
    rw [callD_s (fi := Fis_single) rfl, Fis_single, runF_code]
    simp (config := { decide := true }) [-primD, atc, fit_s, fit_i, eqv_str, eqv_i, cut1, f_tu, m_tu, f_to, m_to]
  | row a b hp =>
    simp (config := { decide := true }) [-primD, atc, fit_s, fit_i, eqv_str, eqv_i]
    rw [callD_s (fi := Fis_row) rfl, Fis_row, runF_code]
    simp (config := { decide := true }) [-primD, atc, fit_s, fit_i, eqv_str, eqv_i]
  | call a =>
    simp (config := { decide := true }) [-primD, atc, fit_s, fit_i, eqv_str, eqv_i]
    rw [callD_s (fi := Fis_single) rfl, Fis_single, runF_code]
    simp (config := { decide := true }) [-primD, atc, fit_s, fit_i, eqv_str, eqv_i, cut1, f_tu, m_tu, f_to, m_to]
  | @turn _ t a =>
    have m : t = "left" ∨ t = "right" ∨ t = "about" := by simpa using a
    rcases m with rfl | rfl | rfl
    all_goals
      simp (config := { decide := true }) [-primD, atc, fit_s, fit_i, eqv_str, eqv_i]
      rw [callD_s (fi := Fis_single) rfl, Fis_single, runF_code]
      simp (config := { decide := true }) [-primD, atc, fit_s, fit_i, eqv_str, eqv_i, cut1, f_tu, m_tu, f_to, m_to]
theorem bad_all {n : Nat} {xs : List PyData} (h : Pr cs gs n (.tuple xs)) (hn : n ≤ 3) (z1 : ("zoo" : Str) ∉ cs) (z2 : ("zoo" : Str) ∉ gs) (hd : 2 * n + 4 ≤ d) : ∀ v ∈ bentD (.tuple xs) xs, callD T d 3 [.v v, .v (strL cs), .v (strL gs), .v (.int 0)] q e = q (.bool false) [.v v, .v (strL cs), .v (strL gs), .v (.int 0)] := by
  obtain ⟨d, rfl⟩ : ∃ d', d = d' + 2 := ⟨d - 2, by omega⟩
  have f1 : fit (.list (cs.map .str)) = true := fit_strL cs
  have f2 : fit (.list (gs.map .str)) = true := fit_strL gs
  have m1 : ∀ x, memD (.str x) (cs.map .str) = decide (x ∈ cs) := fun x => memD_str x cs
  have m2 : ∀ x, memD (.str x) (gs.map .str) = decide (x ∈ gs) := fun x => memD_str x gs
  intro v hv
  simp only [bentD, List.mem_cons, List.not_mem_nil, or_false] at hv
  rcases hv with rfl | rfl | rfl | rfl | rfl | rfl | rfl | rfl | rfl | rfl | rfl | rfl | rfl | rfl | rfl | rfl | rfl | rfl | rfl | rfl | rfl
  · exact p_non (d + 1) _ _ _ _ rfl q e
  · rw [callD_s (fi := Fis_program) rfl, Fis_program, runF_code]
    simp (config := { decide := true }) [-primD, atc, fit_s, fit_i, eqv_str, eqv_i]
  · exact p_non (d + 1) _ _ _ _ rfl q e
  · exact bad4 d cs gs q e h
  · rw [callD_s (fi := Fis_program) rfl, Fis_program, runF_code]
    simp (config := { decide := true }) [-primD, atc, fit_s, fit_i, eqv_str, eqv_i]
    rw [callD_s (fi := Fis_single) rfl, Fis_single, runF_code]
    simp (config := { decide := true }) [-primD, atc, at20, at21, fit_s, fit_i, eqv_str, eqv_i, cut1, f_tu, m_tu, f_to, m_to, strL, m1, m2, f1, f2, z1, z2]
  · rw [callD_s (fi := Fis_program) rfl, Fis_program, runF_code]
    simp (config := { decide := true }) [-primD, atc, fit_s, fit_i, eqv_str, eqv_i]
    rw [callD_s (fi := Fis_single) rfl, Fis_single, runF_code]
    simp (config := { decide := true }) [-primD, atc, at20, at21, fit_s, fit_i, eqv_str, eqv_i, cut1, f_tu, m_tu, f_to, m_to, strL, m1, m2, f1, f2, z1, z2]
  · rw [callD_s (fi := Fis_program) rfl, Fis_program, runF_code]
    simp (config := { decide := true }) [-primD, atc, fit_s, fit_i, eqv_str, eqv_i]
    rw [callD_s (fi := Fis_single) rfl, Fis_single, runF_code]
    simp (config := { decide := true }) [-primD, atc, at20, at21, fit_s, fit_i, eqv_str, eqv_i, cut1, f_tu, m_tu, f_to, m_to, strL, m1, m2, f1, f2, z1, z2]
  · rw [callD_s (fi := Fis_program) rfl, Fis_program, runF_code]
    simp (config := { decide := true }) [-primD, atc, fit_s, fit_i, eqv_str, eqv_i]
    rw [callD_s (fi := Fis_single) rfl, Fis_single, runF_code]
    simp (config := { decide := true }) [-primD, atc, at20, at21, fit_s, fit_i, eqv_str, eqv_i, cut1, f_tu, m_tu, f_to, m_to, strL, m1, m2, f1, f2, z1, z2]
  · rw [callD_s (fi := Fis_program) rfl, Fis_program, runF_code]
    simp (config := { decide := true }) [-primD, atc, fit_s, fit_i, eqv_str, eqv_i]
    rw [callD_s (fi := Fis_single) rfl, Fis_single, runF_code]
    simp (config := { decide := true }) [-primD, atc, at20, at21, fit_s, fit_i, eqv_str, eqv_i, cut1, f_tu, m_tu, f_to, m_to, strL, m1, m2, f1, f2, z1, z2]
  · rw [callD_s (fi := Fis_program) rfl, Fis_program, runF_code]
    simp (config := { decide := true }) [-primD, atc, fit_s, fit_i, eqv_str, eqv_i]
    rw [callD_s (fi := Fis_single) rfl, Fis_single, runF_code]
    simp (config := { decide := true }) [-primD, atc, at20, at21, fit_s, fit_i, eqv_str, eqv_i, cut1, f_tu, m_tu, f_to, m_to, strL, m1, m2, f1, f2, z1, z2]
  · rw [callD_s (fi := Fis_program) rfl, Fis_program, runF_code]
    simp (config := { decide := true }) [-primD, atc, fit_s, fit_i, eqv_str, eqv_i]
    rw [callD_s (fi := Fis_single) rfl, Fis_single, runF_code]
    simp (config := { decide := true }) [-primD, atc, at20, at21, fit_s, fit_i, eqv_str, eqv_i, cut1, f_tu, m_tu, f_to, m_to, strL, m1, m2, f1, f2, z1, z2]
  · rw [callD_s (fi := Fis_program) rfl, Fis_program, runF_code]
    simp (config := { decide := true }) [-primD, atc, fit_s, fit_i, eqv_str, eqv_i]
    rw [callD_s (fi := Fis_single) rfl, Fis_single, runF_code]
    simp (config := { decide := true }) [-primD, atc, at20, at21, fit_s, fit_i, eqv_str, eqv_i, cut1, f_tu, m_tu, f_to, m_to, strL, m1, m2, f1, f2, z1, z2]
  · rw [callD_s (fi := Fis_program) rfl, Fis_program, runF_code]
    simp (config := { decide := true }) [-primD, atc, fit_s, fit_i, eqv_str, eqv_i]
    rw [callD_s (fi := Fis_row) rfl, Fis_row, runF_code]
    simp (config := { decide := true }) [-primD, atc, at21, fit_s, fit_i, eqv_str, eqv_i]
  · rw [callD_s (fi := Fis_program) rfl, Fis_program, runF_code]
    simp (config := { decide := true }) [-primD, atc, fit_s, fit_i, eqv_str, eqv_i]
    rw [callD_s (fi := Fis_row) rfl, Fis_row, runF_code]
    simp (config := { decide := true }) [-primD, atc, at21, fit_s, fit_i, eqv_str, eqv_i]
  · rw [callD_s (fi := Fis_program) rfl, Fis_program, runF_code]
    simp (config := { decide := true }) [-primD, atc, fit_s, fit_i, eqv_str, eqv_i]
    rw [callD_s (fi := Fis_row) rfl, Fis_row, runF_code]
    simp (config := { decide := true }) [-primD, atc, at21, fit_s, fit_i, eqv_str, eqv_i]
  · rw [callD_s (fi := Fis_program) rfl, Fis_program, runF_code]
    simp (config := { decide := true }) [-primD, atc, fit_s, fit_i, eqv_str, eqv_i]
    rw [callD_s (fi := Fis_row) rfl, Fis_row, runF_code]
    simp (config := { decide := true }) [-primD, atc, at21, fit_s, fit_i, eqv_str, eqv_i]
  · rw [callD_s (fi := Fis_program) rfl, Fis_program, runF_code]
    simp (config := { decide := true }) [-primD, atc, fit_s, fit_i, eqv_str, eqv_i]
    rw [callD_s (fi := Fis_single) rfl, Fis_single, runF_code]
    obtain ⟨d, rfl⟩ : ∃ d', d = d' + 1 := ⟨d - 1, by omega⟩
    simp (config := { decide := true }) [-primD, atc, at20, at21, fit_s, fit_i, eqv_str, eqv_i, cut1, f_tu, m_tu, f_to, m_to]
    rw [p_non _ _ _ _ _ rfl]
  · obtain ⟨w, hw⟩ := h.hd
    obtain ⟨b, hb⟩ := c_any cs gs h d (by omega) (0 + deepR (some w))
    rw [p_row d _ _ _ q e [.tuple xs, .none] (by simp) (by simp) (fun p => isaD 0 p && b) fun p m => ?_]
    · simp
    · have m : p = .tuple xs ∨ p = .none := by simpa using m
      rcases m with rfl | rfl
      · exact ⟨some w, hw, fun q e => by rw [hb]; rfl⟩
      · obtain ⟨d, rfl⟩ : ∃ d', d = d' + 1 := ⟨d - 1, by omega⟩
        exact ⟨none, rfl, fun q e => p_non d _ _ _ _ rfl q e⟩
  · rw [callD_s (fi := Fis_program) rfl, Fis_program, runF_code]
    simp (config := { decide := true }) [-primD, atc, fit_s, fit_i, eqv_str, eqv_i]
    rw [callD_s (fi := Fis_single) rfl, Fis_single, runF_code]
    simp (config := { decide := true }) [-primD, atc, at20, at21, fit_s, fit_i, eqv_str, eqv_i, cut1, f_tu, m_tu, f_to, m_to, strL, m1, m2, f1, f2, z1, z2]
  · rw [callD_s (fi := Fis_program) rfl, Fis_program, runF_code]
    simp (config := { decide := true }) [-primD, atc, fit_s, fit_i, eqv_str, eqv_i]
  · rw [callD_s (fi := Fis_program) rfl, Fis_program, runF_code]
    simp (config := { decide := true }) [-primD, atc, fit_s, fit_i, eqv_str, eqv_i]
    rw [callD_s (fi := Fis_single) rfl, Fis_single, runF_code]
    simp (config := { decide := true }) [-primD, atc, at20, at21, fit_s, fit_i, eqv_str, eqv_i, cut1, f_tu, m_tu, f_to, m_to, strL, m1, m2, f1, f2, z1, z2]
end
end Pv
set_option linter.all false
set_option maxRecDepth 100000
set_option maxHeartbeats 400000
namespace Pv
open PySem PySem.W
theorem ix1 (D : Dn) (k) : ixD D.val (.int 1) k = k (dsT D.ds) := rfl
theorem ix2 (D : Dn) (k) : ixD D.val (.int 2) k = k (.tuple (((gps D.ds).map grp).map pairT)) := rfl
theorem ix3 (D : Dn) (k) : ixD D.val (.int 3) k = k (.tuple (ss4.map pairT)) := rfl
theorem ix4 (D : Dn) (k) : ixD D.val (.int 4) k = k (.tuple (D.cl.map pairT)) := rfl
theorem ix5 (D : Dn) (k) : ixD D.val (.int 5) k = k (pls D.st) := rfl
section
variable (K : Slot) (q : Fl → Prop) (e : Ex → Env → Prop) (ss : CSs)
theorem m1 (S : Slot) (r : List Slot) (h : ∀ D : Dn, DnOk D → evSs (callD T 24) ss (.un :: .st :: K :: .v D.val :: r) q e) : evSs (callD T 24) (.cons M1 ss) (.un :: .st :: K :: S :: r) q e := by
  simp only [M1, evSs, evS, evE, evAr, slotS_s, List.getElem?_cons_succ, List.getElem?_cons_zero]
  have := fun q e h => c_ldance 18 q e h
  refine this _ _ fun D hD => ?_
  exact h D hD
theorem m2 {D : Dn} (hD : DnOk D) (S4 S5 S6 S7 S8 S9 S10 S11 S12 : Slot) (r : List Slot)
    (h : evSs (callD T 24) ss (.un :: .st :: K :: .v D.val :: .v (strL D.cn) :: .v (strL gN) :: .v (.dict (encP ss4)) :: S7 :: S8 :: S9 :: S10 :: S11 :: S12 :: r) q e) : evSs (callD T 24) (.cons M2 ss) (.un :: .st :: K :: .v D.val :: S4 :: S5 :: S6 :: S7 :: S8 :: S9 :: S10 :: S11 :: S12 :: r) q e := by
  simp only [M2, evSs, evS, evE, evEs, evI, slotV_v, List.getElem?_cons_succ, List.getElem?_cons_zero, ix4, ix2, ix3, asS_t, tgs, wipeE, List.set_cons_succ, List.set_cons_zero, pr_lst, pr_dct, asS_l, pairsD_map]
  rw [names_F D.cl _ fun a _ k => by simp [pairT]]
  rw [names_F ((gps D.ds).map grp) _ fun a _ k => by simp [pairT]]
  refine ⟨nd4, ?_⟩
  exact h
theorem m3 {D : Dn} (hD : DnOk D) (S6 : Slot) (r : List Slot)
    (h : evSs (callD T 24) ss (.un :: .st :: K :: .v D.val :: .v (strL D.cn) :: .v (strL gN) :: S6 :: r) q e) : evSs (callD T 24) (.cons M3 ss) (.un :: .st :: K :: .v D.val :: .v (strL D.cn) :: .v (strL gN) :: S6 :: r) q e := by
  have c1 := fun q e => c_isd hD q e
  have c2 : ∀ q e, callD T 24 11 [.v D.val] q e = q (strL D.cn) [.v D.val] := fun q e => c_names _ _ _ _ _ 23 q e
  have hl : D.st.length = D.ds.length := by rw [hD.stlen, hD.dslen]
  have l8 : D.st.length ≤ 60 := by have := hD.stlen; have := hD.m4; omega
  have c3 : ∀ q e, callD T 24 10 [.v D.val, .v (pls D.st)] q e = q (.bool true) [.v D.val, .v (pls D.st)] := fun q e => by
    have := c_set D.val D.ds (ix1 D) q e 23 D.st hl l8 hD.fc
    rw [decide_eq_true hD.spots] at this
    exact this
  have f1 := fit_strL D.cn
  have f2 : PyData.eqv (strL D.cn) (strL D.cn) = true := (Datum.eqv D.cn D.cn).trans (decide_eq_true rfl)
  have a1 : ∀ k, asS (strL D.cn) k = k (D.cn.map .str) := fun _ => rfl
  have a2 : PyData.list (D.cn.map .str) = strL D.cn := rfl
  simp (config := { decide := true }) [-primD, M3, c1, c2, c3, ix5, f1, f2, a1, a2]
  exact h
theorem m4 {D : Dn} (hD : DnOk D) (S6 S7 : Slot) (r : List Slot)
    (h : ∀ p, Pr D.cn gN 3 p → evSs (callD T 24) ss (.un :: .st :: K :: .v D.val :: .v (strL D.cn) :: .v (strL gN) :: S6 :: .v p :: r) q e) : evSs (callD T 24) (.cons M4 ss) (.un :: .st :: K :: .v D.val :: .v (strL D.cn) :: .v (strL gN) :: S6 :: S7 :: r) q e := by
  have nc : D.cn ≠ [] := by
    intro z
    have := congrArg List.length z
    have h2 := hD.cllen
    have h1 := hD.a1
    have h3 : D.cl.length = 0 := by simpa [Dn.cn] using this
    omega
  have lc : D.cn.length < 1000 := by
    have h2 := hD.cllen
    have := hD.a3; have := hD.b2
    show (D.cl.map _).length < 1000
    rw [List.length_map]; omega
  have lp : ∀ q e, (∀ p, Pr D.cn gN 3 p → q p [.st, .v (strL D.cn), .v (strL gN), .v (.int 3)]) → callD T 24 18 [.st, .v (strL D.cn), .v (strL gN), .v (.int 3)] q e := by
    have := c_lprog D.cn gN nc (by simp) lc (by simp) 3 18
    exact this
  simp only [M4, evSs, evS, evE, evAr, slotS_s, slotV_v, List.getElem?_cons_succ, List.getElem?_cons_zero]
  refine lp _ _ fun p hp => ?_
  exact h p hp
theorem zoo_cn {D : Dn} (hD : DnOk D) : ("zoo" : Str) ∉ D.cn := by
  show ("zoo" : Str) ∉ D.cl.map (·.1)
  rw [hD.nm]
  exact DnOk.three hD (P := fun _ a b => ("zoo" : Str) ∉ onL.take a ++ asL2.take b) (by decide)
end
end Pv
set_option linter.all false
set_option maxRecDepth 100000
set_option maxHeartbeats 400000
namespace Pv
open PySem PySem.W
theorem isn_t (p : Bool → Prop) : cmpD .isn (.bool true) (.bool true) p = p false := rfl
theorem isn_f (p : Bool → Prop) : cmpD .isn (.bool false) (.bool false) p = p false := rfl
theorem gt_0 (p : Bool → Prop) : cmpD .gt (.int ((0 : Nat) : Int)) (.int 0) p = p false := by show p (decide ((0 : Int) < 0)) = _; rw [decide_eq_false (by omega)]
section
variable (K : Slot) (q : Fl → Prop) (e : Ex → Env → Prop) (ss : CSs)
theorem m5 {D : Dn} (hD : DnOk D) {p : PyData} (hp : Pr D.cn gN 3 p) (S6 S8 S9 S10 S11 S12 S13 S14 S15 S16 S17 S18 S19 : Slot)
    (h : evSs (callD T 24) ss [.un, .st, K, .v D.val, .v (strL D.cn), .v (strL gN), S6, .v p, S8, S9, S10, S11, S12, S13, S14, S15, S16, S17, S18, S19] q e) : evSs (callD T 24) (.cons M5 ss) [.un, .st, K, .v D.val, .v (strL D.cn), .v (strL gN), S6, .v p, S8, S9, S10, S11, S12, S13, S14, S15, S16, S17, S18, S19] q e := by
  have c1 := fun q e => c_prog D.cn gN hp 24 (by omega) 0 (by omega) q e
  obtain ⟨w, r, rfl⟩ := hp.hd
  have n10 : (PyData.str w :: r).length ≤ 10 := by
    cases hp <;> simp
  have c2 : ∀ q e, callD T 24 23 [.v (.tuple (.str w :: r))] q e = q (.list (bentD (.tuple (.str w :: r)) (.str w :: r))) [.v (.tuple (.str w :: r))] := fun q e => c_bent 23 _ n10 q e
  have c3 := fun v hv q e => bad_all 24 D.cn gN q e hp (by omega) (zoo_cn hD) (by decide) (by omega) v hv
  simp only [M5, evSs, evS, evE, evEs, evAr, evI, slotV_v, List.getElem?_cons_succ, List.getElem?_cons_zero]
  rw [c1]
  simp only [isn_t, asB_b, Bool.false_eq_true, if_false]
  rw [c2]
  simp only [asS_l, tgs, wipeE, setTg, List.set_cons_succ, List.set_cons_zero, slotV_v, List.getElem?_cons_succ, List.getElem?_cons_zero, asB_b, if_true]
  rw [cmpF_none fun v hv k => by
    rw [c3 v hv]
    simp only [isn_f, asB_b, Bool.false_eq_true, if_false]]
  simp only [pr_len, lenD_l, List.length_nil, gt_0, asB_b, Bool.false_eq_true, if_false, seqK_n]
  exact h
end
end Pv
set_option linter.all false
set_option maxRecDepth 100000
set_option maxHeartbeats 400000
namespace Pv
open PySem PySem.W
theorem ne_same {d : PyData} (f : fit d = true) (g : PyData.eqv d d = true) (p : Bool → Prop) : cmpD .ne d d p = p false := by
  show ((fit d && fit d) = true ∧ p (!PyData.eqv d d)) = p false
  rw [f, g]
  simp
section
variable (K : Slot) (q : Fl → Prop) (e : Ex → Env → Prop) (ss : CSs)
theorem m6 {D : Dn} (hD : DnOk D) {p : PyData} (hp : Pr D.cn gN 3 p) (S4 S5 S6 : Slot) (r : List Slot)
    (h : evSs (callD T 24) ss (.un :: .st :: K :: .v D.val :: S4 :: S5 :: S6 :: .v p :: r) q e) : evSs (callD T 24) (.cons M6 ss) (.un :: .st :: K :: .v D.val :: S4 :: S5 :: S6 :: .v p :: r) q e := by
  have hp' : Pr (D.cl.map (·.1)) (((gps D.ds).map grp).map (·.1)) 3 p := hp
  have zg : ("zoo" : Str) ∉ ((gps D.ds).map grp).map (·.1) := show ("zoo" : Str) ∉ gN by decide
  have k1 : ∀ q e, callD T 24 12 [.v D.val, .v p] q e = q (.bool true) [.v D.val, .v p] := fun q e => c_known (dsT D.ds) ((gps D.ds).map grp) (.tuple (ss4.map pairT)) D.cl (pls D.st) hp' 24 (by omega) q e
  have k2 : ∀ q e, callD T 24 12 [.v D.val, .v (.tuple [.str "row", .tuple [p, .tuple [.str "call", .str "zoo"]]])] q e = q (.bool false) [.v D.val, .v (.tuple [.str "row", .tuple [p, .tuple [.str "call", .str "zoo"]]])] := fun q e => k_bad1 (dsT D.ds) ((gps D.ds).map grp) (.tuple (ss4.map pairT)) D.cl (pls D.st) (zoo_cn hD) hp' 23 (by omega) q e
  have k3 : ∀ q e, callD T 24 12 [.v D.val, .v (.tuple [.str "times", .int 2, .tuple [.str "only", .str "zoo", p]])] q e = q (.bool false) [.v D.val, .v (.tuple [.str "times", .int 2, .tuple [.str "only", .str "zoo", p]])] := fun q e => k_bad2 (dsT D.ds) ((gps D.ds).map grp) (.tuple (ss4.map pairT)) D.cl (pls D.st) zg p 22 q e
  simp only [M6, evSs, evS, evE, evEs, evAr, slotV_v, List.getElem?_cons_succ, List.getElem?_cons_zero]
  rw [k1]
  simp only [isn_t, asB_b, Bool.false_eq_true, if_false]
  rw [k2]
  simp only [isn_f, asB_b, Bool.false_eq_true, if_false]
  rw [k3]
  simp only [isn_f, asB_b, Bool.false_eq_true, if_false, seqK_n]
  exact h
theorem m7 {D : Dn} (hD : DnOk D) {p : PyData} (hp : Pr D.cn gN 3 p) (S6 : Slot) (r : List Slot)
    (h : evSs (callD T 24) ss (.un :: .st :: K :: .v D.val :: .v (strL D.cn) :: .v (strL gN) :: S6 :: .v p :: r) q e) : evSs (callD T 24) (.cons M7 ss) (.un :: .st :: K :: .v D.val :: .v (strL D.cn) :: .v (strL gN) :: S6 :: .v p :: r) q e := by
  have nd : (D.cl.map (·.1)).Nodup := by
    rw [hD.nm]
    exact DnOk.three hD (P := fun _ a b => (onL.take a ++ asL2.take b).Nodup) (by decide)
  have rc := res_calls hD.wf (dsT D.ds) ((gps D.ds).map grp) (.tuple (ss4.map pairT)) (pls D.st) D.cl ⟨[], by simp⟩ nd
  have rp := res_pr (dsT D.ds) ((gps D.ds).map grp) (.tuple (ss4.map pairT)) D.cl (pls D.st) (by omega) rc hp
  obtain ⟨v, b, k⟩ := rp
  have hl := hD.cllen
  have ha := hD.a3
  have hb := hD.b2
  have k := k 24 (by omega)
  have k1 : ∀ q e, callD T 24 13 [.v D.val, .v p] q e = q (.int v) [.v D.val, .v p] := fun q e => (k q e).1
  have k2 : ∀ q e, callD T 24 21 [.v D.val, .v p] q e = q (.int v) [.v D.val, .v p] := fun q e => (k q e).2.1
  have k3 : ∀ q e, callD T 24 14 [.v D.val, .v p] q e = q (.bool b) [.v D.val, .v p] := fun q e => (k q e).2.2.1
  have k4 : ∀ q e, callD T 24 22 [.v D.val, .v p] q e = q (.bool b) [.v D.val, .v p] := fun q e => (k q e).2.2.2
  have k5 := fun q e => c_lknown D.cn gN hp 24 (by omega) q e
  have e1 : PyData.eqv (.int v) (.int v) = true := by rw [eqv_i]; exact decide_eq_true rfl
  have e2 : PyData.eqv (.bool b) (.bool b) = true := by rw [PyData.eqv]; simp
  simp only [M7, evSs, evS, evE, evEs, evAr, slotV_v, List.getElem?_cons_succ, List.getElem?_cons_zero]
  rw [k1, k2]
  simp only [ne_same (fit_i v) e1, asB_b, Bool.false_eq_true, if_false]
  rw [k3, k4]
  simp only [ne_same (fit_b b) e2, asB_b, Bool.false_eq_true, if_false]
  rw [k5]
  simp only [asB_b, Bool.not_true, Bool.false_eq_true, if_false, seqK_n]
  exact h
theorem m8 (A B C D E F S8 : Slot) (r : List Slot) (h : evSs (callD T 24) ss (.un :: .st :: K :: A :: B :: C :: D :: E :: .v (chain 0) :: r) q e) : evSs (callD T 24) (.cons M8 ss) (.un :: .st :: K :: A :: B :: C :: D :: E :: S8 :: r) q e := by
  simp only [M8, evSs, evS, evE, evEs, List.set_cons_succ, List.set_cons_zero, seqK_n]
  exact h
theorem chain_loop (A B C D E : Slot) (r : List Slot) (Ex' : Ex → Env → Prop) : ∀ (l : List PyData) (n : Nat) (Q : Fl → Prop), forL (.nm 9) [9] (fun ρ1 q => evSs (callD T 24) Blaw_1 ρ1 q Ex') l (.un :: .st :: K :: A :: B :: C :: D :: E :: .v (chain n) :: .un :: r) Q = Q (.nx (.un :: .st :: K :: A :: B :: C :: D :: E :: .v (chain (n + l.length)) :: .un :: r)) := by
  intro l
  induction l with
  | nil => intro n Q; rfl
  | cons a l ih =>
    intro n Q
    rw [forL]
    simp only [setTg, Blaw_1, evSs, evS, evE, evEs, slotV_v, List.getElem?_cons_succ, List.getElem?_cons_zero, List.set_cons_succ, List.set_cons_zero, seqK_n, turnK_n, wipeE]
    have := ih (n + 1) Q
    rw [show n + (a :: l).length = n + 1 + l.length by simp; omega]
    exact this
theorem m9 (A B C D E : Slot) (r : List Slot) (h : evSs (callD T 24) ss (.un :: .st :: K :: A :: B :: C :: D :: E :: .v (chain 6) :: .un :: r) q e) : evSs (callD T 24) (.cons M9 ss) (.un :: .st :: K :: A :: B :: C :: D :: E :: .v (chain 0) :: .un :: r) q e := by
  simp only [M9, evSs, evS, evI, evE, asI_i]
  refine ⟨by decide, ?_⟩
  rw [chain_loop]
  exact h
theorem m10 (cn : List Str) (A S6 E : Slot) (r : List Slot) (h : evSs (callD T 24) ss (.un :: .st :: K :: A :: .v (strL cn) :: .v (strL gN) :: S6 :: E :: .v (chain 6) :: r) q e) : evSs (callD T 24) (.cons M10 ss) (.un :: .st :: K :: A :: .v (strL cn) :: .v (strL gN) :: S6 :: E :: .v (chain 6) :: r) q e := by
  have k1 : ∀ q e, callD T 24 3 [.v (chain 6), .v (strL cn), .v (strL gN), .v (.int 0)] q e = q (.bool true) [.v (chain 6), .v (strL cn), .v (strL gN), .v (.int 0)] := fun q e => c_chain (strL cn) (strL gN) 6 24 (by omega) 0 q e
  have k2 : ∀ q e, callD T 24 3 [.v (chain 6), .v (strL cn), .v (strL gN), .v (.int 1)] q e = q (.bool false) [.v (chain 6), .v (strL cn), .v (strL gN), .v (.int 1)] := fun q e => c_chain (strL cn) (strL gN) 6 24 (by omega) 1 q e
  have k3 : ∀ q e, callD T 24 3 [.v (.tuple [.str "times", .int 1, chain 6]), .v (strL cn), .v (strL gN), .v (.int 0)] q e = q (.bool false) [.v (.tuple [.str "times", .int 1, chain 6]), .v (strL cn), .v (strL gN), .v (.int 0)] := fun q e => c_chain (strL cn) (strL gN) 7 24 (by omega) 0 q e
  simp only [M10, evSs, evS, evE, evEs, evAr, slotV_v, List.getElem?_cons_succ, List.getElem?_cons_zero]
  rw [k1]
  simp only [isn_t, asB_b, Bool.false_eq_true, if_false]
  rw [k2]
  simp only [isn_f, asB_b, Bool.false_eq_true, if_false]
  rw [k3]
  simp only [isn_f, asB_b, Bool.false_eq_true, if_false, seqK_n]
  exact h
theorem m11 (A B C D E F G S : Slot) (r : List Slot) (h : evSs (callD T 24) ss (.un :: .st :: K :: A :: B :: C :: D :: E :: F :: G :: .v rows3 :: r) q e) : evSs (callD T 24) (.cons M11 ss) (.un :: .st :: K :: A :: B :: C :: D :: E :: F :: G :: S :: r) q e := by
  simp only [M11, evSs, evS, evE, evEs, List.set_cons_succ, List.set_cons_zero, seqK_n]
  exact h
theorem m12 (cn : List Str) (A S6 E F G : Slot) (r : List Slot) (h : evSs (callD T 24) ss (.un :: .st :: K :: A :: .v (strL cn) :: .v (strL gN) :: S6 :: E :: F :: G :: .v rows3 :: r) q e) : evSs (callD T 24) (.cons M12 ss) (.un :: .st :: K :: A :: .v (strL cn) :: .v (strL gN) :: S6 :: E :: F :: G :: .v rows3 :: r) q e := by
  have k1 : ∀ q e, callD T 24 3 [.v rows3, .v (strL cn), .v (strL gN), .v (.int 4)] q e = q (.bool true) [.v rows3, .v (strL cn), .v (strL gN), .v (.int 4)] := fun q e => c_rows3 (strL cn) (strL gN) 16 4 q e true (.inl ⟨rfl, rfl⟩)
  have k2 : ∀ q e, callD T 24 3 [.v rows3, .v (strL cn), .v (strL gN), .v (.int 5)] q e = q (.bool false) [.v rows3, .v (strL cn), .v (strL gN), .v (.int 5)] := fun q e => c_rows3 (strL cn) (strL gN) 16 5 q e false (.inr ⟨rfl, rfl⟩)
  simp only [M12, evSs, evS, evE, evEs, evAr, slotV_v, List.getElem?_cons_succ, List.getElem?_cons_zero]
  rw [k1]
  simp only [isn_t, asB_b, Bool.false_eq_true, if_false]
  rw [k2]
  simp only [isn_f, asB_b, Bool.false_eq_true, if_false, seqK_n]
  exact h
theorem m13 (cn : List Str) (A S6 : Slot) (r : List Slot) (h : evSs (callD T 24) ss (.un :: .st :: K :: A :: .v (strL cn) :: .v (strL gN) :: S6 :: r) q e) : evSs (callD T 24) (.cons M13 ss) (.un :: .st :: K :: A :: .v (strL cn) :: .v (strL gN) :: S6 :: r) q e := by
  have k1 : ∀ q e, callD T 24 3 [.v (.tuple [.str "times", .int 1, .tuple [.str "row", .tuple [.tuple [.str "left"], .tuple [.str "left"]]]]), .v (strL cn), .v (strL gN), .v (.int 5)] q e = q (.bool false) [.v (.tuple [.str "times", .int 1, .tuple [.str "row", .tuple [.tuple [.str "left"], .tuple [.str "left"]]]]), .v (strL cn), .v (strL gN), .v (.int 5)] :=
    fun q e => c_trow (strL cn) (strL gN) 18 q e [pturn "left", pturn "left"] (by simp) (by simp) (by simp)
  simp only [M13, evSs, evS, evE, evEs, evAr, slotV_v, List.getElem?_cons_succ, List.getElem?_cons_zero]
  rw [k1]
  simp only [isn_f, asB_b, Bool.false_eq_true, if_false, seqK_n]
  exact h
end
end Pv
set_option linter.all false
set_option maxRecDepth 100000
set_option maxHeartbeats 400000
namespace Pv
open PySem PySem.W
theorem cutH (a : PyData) (r : List PyData) : cutG (a :: r) none (some 1) = [a] := by
  have := HT.sIx_nat (a :: r).length (a :: r).length 1
  simp only [cutG, HT.sIx_none]
  rw [show (1 : Int) = ((1 : Nat) : Int) from rfl, this]
  simp
theorem eq_str (a b : Str) (p : Bool → Prop) : cmpD .eq (.str a) (.str b) p = p (decide (a = b)) := by
  show ((fit (.str a) && fit (.str b)) = true ∧ p (PyData.eqv (.str a) (.str b))) = _
  rw [eqv_str, fit_s, fit_s]
  simp
theorem addT (xs ys : List PyData) (p : PyData → Prop) (h : xs.length + ys.length ≤ LIM) : opD .add (.tuple xs) (.tuple ys) p = p (.tuple (xs ++ ys)) := propext (and_iff_right h)
theorem addL (xs ys : List PyData) (p : PyData → Prop) (h : xs.length + ys.length ≤ LIM) : opD .add (.list xs) (.list ys) p = p (.list (xs ++ ys)) := propext (and_iff_right h)
theorem lim {n : Nat} (h : n ≤ 1000) : n ≤ LIM := by show _ ≤ 1000000; omega
section
variable (K : Slot) (q : Fl → Prop) (e : Ex → Env → Prop)
/-- what all these rows come to: a list of values that are all none -/
theorem j4 (A : PyData) (cn : List Str) (S7 S8 S9 S10 S11 T12 S14 S15 S16 S17 S18 S19 : Slot) (l : List PyData) (hl : ∀ v ∈ l, ∀ q e, callD T 24 9 [.v v, .v (.dict (encP ss4)), .v (strL cn), .v (strL gN)] q e = q (.bool false) [.v v, .v (.dict (encP ss4)), .v (strL cn), .v (strL gN)])
    (h : q (.nx [.un, .st, K, .v A, .v (strL cn), .v (strL gN), .v (.dict (encP ss4)), S7, S8, S9, S10, S11, T12, .v (.list l), S14, S15, S16, S17, S18, S19])) :
    evSs (callD T 24) (.cons J4 .nil) [.un, .st, K, .v A, .v (strL cn), .v (strL gN), .v (.dict (encP ss4)), S7, S8, S9, S10, S11, T12, .v (.list l), S14, S15, S16, S17, S18, S19] q e := by
  simp only [J4, evSs, evS, evE, evEs, evAr, evI, slotV_v, List.getElem?_cons_succ, List.getElem?_cons_zero, asS_l, tgs, wipeE, setTg, List.set_cons_succ, List.set_cons_zero, asB_b, if_true]
  rw [cmpF_none fun v hv k => by
    rw [hl v hv]
    simp only [isn_f, asB_b, Bool.false_eq_true, if_false]]
  simp only [pr_len, lenD_l, List.length_nil, gt_0, asB_b, Bool.false_eq_true, if_false, seqK_n]
  exact h
abbrev env14 (K : Slot) (A : PyData) (cn : List Str) (S7 S8 S9 S10 S11 T12 S13 S14 S15 S16 S17 S18 S19 : Slot) : Env := [.un, .st, K, .v A, .v (strL cn), .v (strL gN), .v (.dict (encP ss4)), S7, S8, S9, S10, S11, T12, S13, S14, S15, S16, S17, S18, S19]
theorem j1 (A t : PyData) (cn : List Str) (ss : CSs) (S7 S8 S9 S10 S11 S13 S14 S15 S16 S17 S18 S19 : Slot) (k1 : ∀ q e, callD T 24 9 [.v t, .v (.dict (encP ss4)), .v (strL cn), .v (strL gN)] q e = q (.bool true) [.v t, .v (.dict (encP ss4)), .v (strL cn), .v (strL gN)])
    (h : evSs (callD T 24) ss [.un, .st, K, .v A, .v (strL cn), .v (strL gN), .v (.dict (encP ss4)), S7, S8, S9, S10, S11, .v t, S13, S14, S15, S16, S17, S18, S19] q e) : evSs (callD T 24) (.cons J1 ss) [.un, .st, K, .v A, .v (strL cn), .v (strL gN), .v (.dict (encP ss4)), S7, S8, S9, S10, S11, .v t, S13, S14, S15, S16, S17, S18, S19] q e := by
  simp only [evSs, J1, evS, evE, evEs, evAr, slotV_v, List.getElem?_cons_succ, List.getElem?_cons_zero]
  rw [k1]
  simp only [isn_t, asB_b, Bool.false_eq_true, if_false, seqK_n]
  exact h
theorem j2 (A : PyData) (cn : List Str) (w : Str) (r : List PyData) (n : r.length ≤ 10) (ss : CSs) (S7 S8 S9 S10 S11 S13 S14 S15 S16 S17 S18 S19 : Slot)
    (h : evSs (callD T 24) ss [.un, .st, K, .v A, .v (strL cn), .v (strL gN), .v (.dict (encP ss4)), S7, S8, S9, S10, S11, .v (.tuple (.str w :: r)), .v (.list [.none, .list (.str w :: r), .tuple [.str w], .tuple (.str "other" :: r), .tuple (.str w :: r ++ [.int 1])]), S14, S15, S16, S17, S18, S19] q e) : evSs (callD T 24) (.cons J2 ss) [.un, .st, K, .v A, .v (strL cn), .v (strL gN), .v (.dict (encP ss4)), S7, S8, S9, S10, S11, .v (.tuple (.str w :: r)), S13, S14, S15, S16, S17, S18, S19] q e := by
  simp only [evSs, J2, evS, evE, evEs, slotV_v, List.getElem?_cons_succ, List.getElem?_cons_zero, pr_lst, asS_t, isNo, asP_n, asP_i, cutD_t, cutH, cut1]
  rw [addT _ _ _ (lim (by simp; omega)), addT _ _ _ (lim (by simp; omega))]
  simp only [List.cons_append, List.nil_append, seqK_n, List.set_cons_succ, List.set_cons_zero]
  exact h
theorem j3_as (A p : PyData) (cn : List Str) (ss : CSs) (S7 S8 S9 S10 S11 S13 S14 S15 S16 S17 S18 S19 : Slot)
    (h : evSs (callD T 24) ss [.un, .st, K, .v A, .v (strL cn), .v (strL gN), .v (.dict (encP ss4)), S7, S8, S9, S10, S11, .v (.tuple [.str "as", p]), S13, S14, S15, S16, S17, S18, S19] q e) : evSs (callD T 24) (.cons J3 ss) [.un, .st, K, .v A, .v (strL cn), .v (strL gN), .v (.dict (encP ss4)), S7, S8, S9, S10, S11, .v (.tuple [.str "as", p]), S13, S14, S15, S16, S17, S18, S19] q e := by
  have ne : decide (("as" : Str) = "on") = false := by decide
  simp only [evSs, J3, evS, evE, evEs, slotV_v, List.getElem?_cons_succ, List.getElem?_cons_zero, ixD_t, asI_i, at20, asO_s, eq_str, asB_b, ne, Bool.false_eq_true, if_false, seqK_n]
  exact h
theorem j3_on (A : PyData) (cn : List Str) (s : Str) (g : List Pl) (n : g.length ≤ 10) (l : List PyData) (nl : l.length ≤ 10) (ss : CSs) (S7 S8 S9 S10 S11 S14 S15 S16 S17 S18 S19 : Slot)
    (h : evSs (callD T 24) ss [.un, .st, K, .v A, .v (strL cn), .v (strL gN), .v (.dict (encP ss4)), S7, S8, S9, S10, S11, .v (.tuple [.str "on", .str s, pls g]), .v (.list (l ++ [.tuple [.str "on", .str "zoo", pls g], .tuple [.str "on", .str s, pls (g ++ [⟨9, 9, 0⟩])], .tuple [.str "on", .str s, .list (g.map pl)], .tuple [.str "on", .int 1, pls g]])), S14, S15, S16, S17, S18, S19] q e) : evSs (callD T 24) (.cons J3 ss) [.un, .st, K, .v A, .v (strL cn), .v (strL gN), .v (.dict (encP ss4)), S7, S8, S9, S10, S11, .v (.tuple [.str "on", .str s, pls g]), .v (.list l), S14, S15, S16, S17, S18, S19] q e := by
  have e9 : opD .add (pls g) (.tuple [.tuple [.int 9, .int 9, .int 0]]) = fun p => p (pls (g ++ [⟨9, 9, 0⟩])) := by
    funext p
    show opD .add (.tuple (g.map pl)) _ p = _
    rw [addT _ _ _ (lim (by simp; omega))]
    simp [pls, pl]
  simp only [evSs, J3, evS, evE, evEs, slotV_v, List.getElem?_cons_succ, List.getElem?_cons_zero, ixD_t, asI_i, at0, at1, at2, asO_s, eq_str, asB_b, decide_true, if_true, pr_lst]
  rw [e9]
  simp only [asS_pls]
  rw [addL _ _ _ (lim (by simp; omega))]
  simp only [seqK_n, List.set_cons_succ, List.set_cons_zero]
  exact h
theorem bads_on (cn : List Str) {s : Str} {l g : List Pl} (h1 : (s, l) ∈ sh4) (h2 : g.length = l.length) : ∀ v ∈ ([.none, .list [.str "on", .str s, pls g], .tuple [.str "on"], .tuple [.str "other", .str s, pls g], .tuple [.str "on", .str s, pls g, .int 1], .tuple [.str "on", .str "zoo", pls g], .tuple [.str "on", .str s, pls (g ++ [⟨9, 9, 0⟩])], .tuple [.str "on", .str s, .list (g.map pl)], .tuple [.str "on", .int 1, pls g]] : List PyData),
      ∀ q e, callD T 24 9 [.v v, .v (.dict (encP ss4)), .v (strL cn), .v (strL gN)] q e = q (.bool false) [.v v, .v (.dict (encP ss4)), .v (strL cn), .v (strL gN)] := by
  have lg := sh4_len h1
  intro v hv q e
  simp only [List.mem_cons, List.not_mem_nil, or_false] at hv
  rcases hv with hv | hv | hv | hv | hv | hv | hv | hv | hv <;> rw [hv]
  · exact bad_call1 23 q e _ _ _ _ rfl
  · exact bad_call1 23 q e _ _ _ _ rfl
  · exact bad_call2 23 q e _ _ _ _
  · exact bad_call3 23 q e _ _ _ _ (by simp)
  · exact bad_call4 23 q e _ _ _ _ _ _ s
  · exact bad_call6 23 q e _ _ _
  · have := c_on 21 cn gN q e h1 (g ++ [⟨9, 9, 0⟩]) (by simp) (by simp; omega)
    rw [decide_eq_false (show ¬ (g ++ [(⟨9, 9, 0⟩ : Pl)]).length = l.length by simp; omega), Bool.and_false] at this
    exact this
  · exact bad_call8 22 q e h1 _ _ _
  · exact bad_call7 23 q e _ _ _ _
theorem bads_as (cn : List Str) (p : PyData) : ∀ v ∈ ([.none, .list [.str "as", p], .tuple [.str "as"], .tuple [.str "other", p], .tuple [.str "as", p, .int 1]] : List PyData),
      ∀ q e, callD T 24 9 [.v v, .v (.dict (encP ss4)), .v (strL cn), .v (strL gN)] q e = q (.bool false) [.v v, .v (.dict (encP ss4)), .v (strL cn), .v (strL gN)] := by
  intro v hv q e
  simp only [List.mem_cons, List.not_mem_nil, or_false] at hv
  rcases hv with hv | hv | hv | hv | hv <;> rw [hv]
  · exact bad_call1 23 q e _ _ _ _ rfl
  · exact bad_call1 23 q e _ _ _ _ rfl
  · exact bad_call2 23 q e _ _ _ _
  · exact bad_call3 23 q e _ _ _ _ (by simp)
  · exact bad_call5 23 q e _ _ _ _ _
end
end Pv
set_option linter.all false
set_option maxRecDepth 100000
set_option maxHeartbeats 400000
namespace Pv
open PySem PySem.W
section
variable (K : Slot) (q : Fl → Prop) (e : Ex → Env → Prop)
theorem body_on (A : PyData) (cn : List Str) (S7 S8 S9 S10 S11 S14 S15 S16 S17 S18 S19 : Slot) {s : Str} {l g : List Pl} (h1 : (s, l) ∈ sh4) (h2 : g.length = l.length) (h3 : ∀ p ∈ g, OkP p) (h4 : Spots g)
    (h : ∀ X, q (.nx [.un, .st, K, .v A, .v (strL cn), .v (strL gN), .v (.dict (encP ss4)), S7, S8, S9, S10, S11, .v (.tuple [.str "on", .str s, pls g]), X, S14, S15, S16, S17, S18, S19])) :
    evSs (callD T 24) Blaw_2 [.un, .st, K, .v A, .v (strL cn), .v (strL gN), .v (.dict (encP ss4)), S7, S8, S9, S10, S11, .v (.tuple [.str "on", .str s, pls g]), .un, S14, S15, S16, S17, S18, S19] q e := by
  have lg := sh4_len h1
  have k1 : ∀ q e, callD T 24 9 [.v (.tuple [.str "on", .str s, pls g]), .v (.dict (encP ss4)), .v (strL cn), .v (strL gN)] q e = q (.bool true) [.v (.tuple [.str "on", .str s, pls g]), .v (.dict (encP ss4)), .v (strL cn), .v (strL gN)] := fun q e => c_callok (.inl ⟨s, l, g, h1, h2, h3, h4, rfl⟩) 12 q e
  rw [J_rows]
  refine j1 K q e A _ cn _ S7 S8 S9 S10 S11 .un S14 S15 S16 S17 S18 S19 k1 ?_
  refine j2 K q e A cn "on" [.str s, pls g] (by simp) _ S7 S8 S9 S10 S11 .un S14 S15 S16 S17 S18 S19 ?_
  refine j3_on K q e A cn s g (by omega) _ (by simp) _ S7 S8 S9 S10 S11 S14 S15 S16 S17 S18 S19 ?_
  exact j4 K q e A cn S7 S8 S9 S10 S11 _ S14 S15 S16 S17 S18 S19 _ (bads_on cn h1 h2) (h _)
theorem body_as (A : PyData) (cn : List Str) (S7 S8 S9 S10 S11 S14 S15 S16 S17 S18 S19 : Slot) {p : PyData} (hp : Pr cn gN 2 p)
    (h : ∀ X, q (.nx [.un, .st, K, .v A, .v (strL cn), .v (strL gN), .v (.dict (encP ss4)), S7, S8, S9, S10, S11, .v (.tuple [.str "as", p]), X, S14, S15, S16, S17, S18, S19])) :
    evSs (callD T 24) Blaw_2 [.un, .st, K, .v A, .v (strL cn), .v (strL gN), .v (.dict (encP ss4)), S7, S8, S9, S10, S11, .v (.tuple [.str "as", p]), .un, S14, S15, S16, S17, S18, S19] q e := by
  have k1 : ∀ q e, callD T 24 9 [.v (.tuple [.str "as", p]), .v (.dict (encP ss4)), .v (strL cn), .v (strL gN)] q e = q (.bool true) [.v (.tuple [.str "as", p]), .v (.dict (encP ss4)), .v (strL cn), .v (strL gN)] := fun q e => c_callok (.inr ⟨p, hp, rfl⟩) 12 q e
  rw [J_rows]
  refine j1 K q e A _ cn _ S7 S8 S9 S10 S11 .un S14 S15 S16 S17 S18 S19 k1 ?_
  refine j2 K q e A cn "as" [p] (by simp) _ S7 S8 S9 S10 S11 .un S14 S15 S16 S17 S18 S19 ?_
  refine j3_as K q e A p cn _ S7 S8 S9 S10 S11 _ S14 S15 S16 S17 S18 S19 ?_
  exact j4 K q e A cn S7 S8 S9 S10 S11 _ S14 S15 S16 S17 S18 S19 _ (bads_as cn p) (h _)
end
end Pv
set_option linter.all false
set_option maxRecDepth 100000
set_option maxHeartbeats 400000
namespace Pv
open PySem PySem.W
section
variable (K : Slot) (q : Fl → Prop) (e : Ex → Env → Prop)
theorem loop14 (A : PyData) (cn : List Str) (S7 S8 S9 S10 S14 S15 S16 S17 S19 : Slot) : ∀ (post : List (Str × PyData)) (ok : ∀ a ∈ post, CallOk gN cn a.2) (h : q (.nx [.un, .st, K, .v A, .v (strL cn), .v (strL gN), .v (.dict (encP ss4)), S7, S8, S9, S10, .un, .un, .un, S14, S15, S16, S17, .un, S19])),
    forL (.tp [11, 12]) [11, 12, 13, 18] (fun ρ1 q => evSs (callD T 24) Blaw_2 ρ1 q e) (post.map pairT) [.un, .st, K, .v A, .v (strL cn), .v (strL gN), .v (.dict (encP ss4)), S7, S8, S9, S10, .un, .un, .un, S14, S15, S16, S17, .un, S19] q := by
  intro post
  induction post with
  | nil => intro _ h; exact h
  | cons a post ih =>
    intro ok h
    rw [List.map_cons, forL]
    simp only [pairT, setTg, asT_t, List.length_cons, List.length_nil, true_and, setAll, List.set_cons_succ, List.set_cons_zero]
    have nxt := ih (fun a m => ok a (List.mem_cons_of_mem _ m)) h
    rcases ok a List.mem_cons_self with ⟨s, l, g, h1, h2, h3, h4, ea⟩ | ⟨p, hp, ea⟩
    · rw [ea]
      refine body_on K _ e A cn S7 S8 S9 S10 _ S14 S15 S16 S17 .un S19 h1 h2 h3 h4 fun X => ?_
      simp only [turnK_n, wipeE, List.set_cons_succ, List.set_cons_zero]
      exact nxt
    · rw [ea]
      refine body_as K _ e A cn S7 S8 S9 S10 _ S14 S15 S16 S17 .un S19 hp fun X => ?_
      simp only [turnK_n, wipeE, List.set_cons_succ, List.set_cons_zero]
      exact nxt
theorem m14 {D : Dn} (hD : DnOk D) (ss : CSs) (S7 S8 S9 S10 S14 S15 S16 S17 S19 : Slot) (h : evSs (callD T 24) ss [.un, .st, K, .v D.val, .v (strL D.cn), .v (strL gN), .v (.dict (encP ss4)), S7, S8, S9, S10, .un, .un, .un, S14, S15, S16, S17, .un, S19] q e) :
    evSs (callD T 24) (.cons M14 ss) [.un, .st, K, .v D.val, .v (strL D.cn), .v (strL gN), .v (.dict (encP ss4)), S7, S8, S9, S10, .un, .un, .un, S14, S15, S16, S17, .un, S19] q e := by
  have ok : ∀ a ∈ D.cl, CallOk gN D.cn a.2 := fun a m => by
    obtain ⟨pre, post, hs⟩ := List.append_of_mem m
    have sub : ∀ c ∈ pre.map (·.1), c ∈ D.cn := fun c hc => by
      show c ∈ D.cl.map (·.1)
      rw [hs, List.map_append]
      exact List.mem_append_left _ hc
    rcases wf_split hD.wf pre a post hs with z | ⟨p, hp, ea⟩
    · obtain ⟨s, l, g, h1, h2, h3, h4, ea⟩ := z
      exact .inl ⟨s, l, g, h1, h2, h3, h4, ea⟩
    · exact .inr ⟨p, hp.mono sub, ea⟩
  simp only [M14, evSs, evS, evI, evE, slotV_v, List.getElem?_cons_succ, List.getElem?_cons_zero, ix4, asS_t]
  exact loop14 K _ e D.val D.cn S7 S8 S9 S10 S14 S15 S16 S17 S19 D.cl ok h
end
end Pv
set_option linter.all false
set_option maxRecDepth 100000
set_option maxHeartbeats 400000
namespace Pv
open PySem PySem.W
def askL (ds : List Str) : List (PyData × Bool) := [(.tuple (ds.map .str), true), (.tuple [.str "a"], true), (.tuple ((stepG (-1) ds).map .str), false), (.tuple [], false), (.tuple ((ds ++ ([("a" : Str)] : List Str)).map .str), false), (.tuple [.str "zoo"], false), (.list (ds.map .str), false), (.none, false)]
def askT (a : PyData × Bool) : PyData := .tuple [a.1, .bool a.2]
theorem ne_b (a : Bool) (p : Bool → Prop) : cmpD .ne (.bool a) (.bool a) p = p false := ne_same (fit_b a) (by rw [PyData.eqv]; simp) p
theorem cutHd {ds : List Str} (h : ds = ("a" : Str) :: ds.tail) (k) : cutD (dsT ds) none (some 1) k = k (.tuple [.str "a"]) := by
  rw [h]
  show k (.tuple (cutG ((("a" : Str) :: ds.tail).map PyData.str) none (some 1))) = _
  rw [List.map_cons, cutH]
section
variable (K : Slot) (q : Fl → Prop) (e : Ex → Env → Prop) (ss : CSs)
theorem m15 (D : Dn) (S4 S5 S6 S7 S8 S9 S10 S11 S12 S13 S14 : Slot) (r : List Slot) (h : evSs (callD T 24) ss (.un :: .st :: K :: .v D.val :: S4 :: S5 :: S6 :: S7 :: S8 :: S9 :: S10 :: S11 :: S12 :: S13 :: .v (dsT D.ds) :: r) q e) :
    evSs (callD T 24) (.cons M15 ss) (.un :: .st :: K :: .v D.val :: S4 :: S5 :: S6 :: S7 :: S8 :: S9 :: S10 :: S11 :: S12 :: S13 :: S14 :: r) q e := by
  simp only [M15, evSs, evS, evE, slotV_v, List.getElem?_cons_succ, List.getElem?_cons_zero, ix1, List.set_cons_succ, List.set_cons_zero, seqK_n]
  exact h
theorem m16 (ds : List Str) (hd : ds = ("a" : Str) :: ds.tail) (n2 : 2 ≤ ds.length) (n4 : ds.length ≤ 4) (hs : (stepG (-1) (ds.map PyData.str)).length ≤ LIM) (S3 S4 S5 S6 S7 S8 S9 S10 S11 S12 S13 S15 : Slot) (r : List Slot) (h : evSs (callD T 24) ss (.un :: .st :: K :: S3 :: S4 :: S5 :: S6 :: S7 :: S8 :: S9 :: S10 :: S11 :: S12 :: S13 :: .v (dsT ds) :: .v (.list ((askL ds).map askT)) :: r) q e) :
    evSs (callD T 24) (.cons M16 ss) (.un :: .st :: K :: S3 :: S4 :: S5 :: S6 :: S7 :: S8 :: S9 :: S10 :: S11 :: S12 :: S13 :: .v (dsT ds) :: S15 :: r) q e := by
  have c1 := fun k => cutHd hd k
  have c2 : opD .add (dsT ds) (.tuple [.str "a"]) = fun k => k (.tuple ((ds ++ ([("a" : Str)] : List Str)).map .str)) := by
    funext k
    rw [addT _ _ _ (lim (by simp; omega))]
    simp
  have l1 : ∀ k, lenD (dsT ds) k = k ds.length := fun k => by simp
  have l2 : ¬ (ds.length : Int) < 2 := by omega
  have t1 : ∀ k, asT (dsT ds) k = k (ds.map .str) := fun _ => rfl
  have s1 : ∀ k, asS (dsT ds) k = k (ds.map .str) := fun _ => rfl
  simp only [M16, evSs, evS, evE, evEs, slotV_v, List.getElem?_cons_succ, List.getElem?_cons_zero, isNo, asP_n, asP_i, c1, c2, pr_len, pr_lst, l1, cmpD, asI_i, decide_eq_false l2, t1, s1]
  refine ⟨hs, ?_⟩
  simp only [List.set_cons_succ, List.set_cons_zero, seqK_n, stepG_map]
  exact h
theorem m17 (ds : List Str) (f1 : ds ≠ [] ∧ ds = ds.filter (fun x => decide (x ∈ ds))) (f2 : (["a"] : List Str) = ds.filter (fun x => decide (x ∈ (["a"] : List Str)))) (f3 : stepG (-1) ds ≠ [] ∧ ¬ stepG (-1) ds = ds.filter (fun x => decide (x ∈ stepG (-1) ds)))
    (f4 : ¬ ds ++ ([("a" : Str)] : List Str) = ds.filter (fun x => decide (x ∈ ds ++ ([("a" : Str)] : List Str)))) (f5 : ¬ (["zoo"] : List Str) = ds.filter (fun x => decide (x ∈ (["zoo"] : List Str)))) (S3 S4 S5 S6 S7 S8 S9 S10 S11 S12 S13 S16 S17 S18 S19 : Slot)
    (h : evSs (callD T 24) ss [.un, .st, K, S3, S4, S5, S6, S7, S8, S9, S10, S11, S12, S13, .v (dsT ds), .v (.list ((askL ds).map askT)), S16, S17, S18, S19] q e) :
    evSs (callD T 24) (.cons M17 ss) [.un, .st, K, S3, S4, S5, S6, S7, S8, S9, S10, S11, S12, S13, .v (dsT ds), .v (.list ((askL ds).map askT)), S16, S17, S18, S19] q e := by
  have key : ∀ a ∈ askL ds, ∀ q e, callD T 24 8 [.v a.1, .v (dsT ds)] q e = q (.bool a.2) [.v a.1, .v (dsT ds)] := by
    intro a ha q e
    simp only [askL, List.mem_cons, List.not_mem_nil, or_false] at ha
    rcases ha with ha | ha | ha | ha | ha | ha | ha | ha <;> rw [ha]
    · have := c_group 23 ds ds f1.1 q e
      rw [decide_eq_true f1.2] at this
      exact this
    · have := c_group 23 ["a"] ds (by simp) q e
      rw [decide_eq_true f2] at this
      exact this
    · have := c_group 23 (stepG (-1) ds) ds f3.1 q e
      rw [decide_eq_false f3.2] at this
      exact this
    · exact g_non 23 _ _ (.inr rfl) q e
    · have := c_group 23 (ds ++ ([("a" : Str)] : List Str)) ds (by simp) q e
      rw [decide_eq_false f4] at this
      exact this
    · have := c_group 23 ["zoo"] ds (by simp) q e
      rw [decide_eq_false f5] at this
      exact this
    · exact g_non 23 _ _ (.inl rfl) q e
    · exact g_non 23 _ _ (.inl rfl) q e
  simp only [M17, evSs, evS, evE, evEs, evAr, evI, slotV_v, List.getElem?_cons_succ, List.getElem?_cons_zero, asS_l]
  have nn : ∀ F : PyData → (List PyData → Prop) → Prop, (∀ a ∈ askL ds, ∀ k, F (askT a) k = k []) → ∀ p, cmpF F ((askL ds).map askT) p = p [] := fun F hF p => cmpF_none (fun y hy k => by obtain ⟨a, ha, rfl⟩ := List.mem_map.mp hy; exact hF a ha k) p
  rw [nn _ fun a ha k => by
    simp only [askT, setTg, asT_t, List.length_cons, List.length_nil, true_and, tgs, wipeE, setAll, List.set_cons_succ, List.set_cons_zero, slotV_v, List.getElem?_cons_succ, List.getElem?_cons_zero]
    rw [key a ha]
    simp only [ne_b, asB_b, Bool.false_eq_true, if_false]]
  simp only [pr_len, lenD_l, List.length_nil, gt_0, asB_b, Bool.false_eq_true, if_false, seqK_n]
  exact h
end
end Pv
set_option linter.all false
set_option maxRecDepth 100000
set_option maxHeartbeats 400000
namespace Pv
open PySem PySem.W
theorem cutLast {α : Type} (xs : List α) (n : xs ≠ []) : cutG xs none (some (-1)) = xs.dropLast := by
  have l0 := List.length_pos_iff.mpr n
  have e : HT.sIx xs.length xs.length (some (-1)) = xs.length - 1 := by
    show (if (-1 : Int) < 0 then ((-1 : Int) + (xs.length : Int)).toNat else min (-1 : Int).toNat xs.length) = _
    rw [if_pos (by omega)]
    omega
  unfold cutG
  rw [e, HT.sIx_none, List.dropLast_eq_take]
  rfl
def bl (l : List Pl) (p0 : Pl) : List PyData := [pls l.dropLast, pls (l ++ [⟨9, 9, 0⟩]), .list (l.map pl), pls (List.replicate l.length p0), .tuple (l.dropLast.map pl ++ [.tuple [.int 9, .int 9, .int 4]]), .tuple (l.dropLast.map pl ++ [.tuple [.int 9, .bool true, .int 0]]), .tuple (l.dropLast.map pl ++ [.list [.int 9, .int 9, .int 0]]), .none]
section
variable (K : Slot) (q : Fl → Prop) (e : Ex → Env → Prop) (ss : CSs)
theorem m18 (D : Dn) (S4 S5 S6 S7 S8 S9 S10 S11 S12 S13 S14 S15 S16 : Slot) (r : List Slot) (h : evSs (callD T 24) ss (.un :: .st :: K :: .v D.val :: S4 :: S5 :: S6 :: S7 :: S8 :: S9 :: S10 :: S11 :: S12 :: S13 :: S14 :: S15 :: .v (pls D.st) :: r) q e) :
    evSs (callD T 24) (.cons M18 ss) (.un :: .st :: K :: .v D.val :: S4 :: S5 :: S6 :: S7 :: S8 :: S9 :: S10 :: S11 :: S12 :: S13 :: S14 :: S15 :: S16 :: r) q e := by
  simp only [M18, evSs, evS, evE, slotV_v, List.getElem?_cons_succ, List.getElem?_cons_zero, ix5, List.set_cons_succ, List.set_cons_zero, seqK_n]
  exact h
section
variable (l : List Pl)
theorem pcut (n : l ≠ []) (k) : cutD (pls l) none (some (-1)) k = k (pls l.dropLast) := by
  show k (.tuple (cutG (l.map pl) none (some (-1)))) = _
  rw [cutLast _ (by simpa using n), ← List.map_dropLast]
  rfl
theorem padd (n : l.length ≤ 100) (x : PyData) : opD .add (pls l) (.tuple [x]) = fun k => k (.tuple (l.map pl ++ [x])) := by
  funext k
  show opD .add (.tuple (l.map pl)) (.tuple [x]) k = _
  rw [addT _ _ _ (lim (by simp; omega))]
theorem pmul (p0 : Pl) (n2 : 2 ≤ l.length) (n : l.length ≤ 100) : opD .mul (.tuple [pl p0]) (.int (l.length : Int)) = fun k => k (pls (List.replicate l.length p0)) := by
  funext k
  have e : (List.replicate ((l.length : Int).toNat) [pl p0]).flatten = (List.replicate l.length p0).map pl := by
    rw [Int.toNat_natCast]
    generalize l.length = m
    induction m with
    | zero => rfl
    | succ m ih => rw [List.replicate_succ, List.replicate_succ, List.flatten_cons, ih]; rfl
  show (([pl p0] ≠ [] ∧ (2 : Int) ≤ l.length ∧ (l.length : Int) ≤ 1000 ∧ [pl p0].length ≤ 1000) ∧ k (.tuple (List.replicate ((l.length : Int).toNat) [pl p0]).flatten)) = _
  rw [e, eq_true (show [pl p0] ≠ [] ∧ (2 : Int) ≤ l.length ∧ (l.length : Int) ≤ 1000 ∧ [pl p0].length ≤ 1000 from ⟨by simp, by omega, by omega, by simp⟩), true_and]
  rfl
end
theorem m19 (l : List Pl) (p0 : Pl) (hp : l = p0 :: l.tail) (n2 : 2 ≤ l.length) (n4 : l.length ≤ 4) (S3 S4 S5 S6 S7 S8 S9 S10 S11 S12 S13 S14 S15 : Slot) (r : List Slot) (h : evSs (callD T 24) ss (.un :: .st :: K :: S3 :: S4 :: S5 :: S6 :: S7 :: S8 :: S9 :: S10 :: S11 :: S12 :: .v (.list (bl l p0)) :: S14 :: S15 :: .v (pls l) :: r) q e) :
    evSs (callD T 24) (.cons M19 ss) (.un :: .st :: K :: S3 :: S4 :: S5 :: S6 :: S7 :: S8 :: S9 :: S10 :: S11 :: S12 :: S13 :: S14 :: S15 :: .v (pls l) :: r) q e := by
  have l0 : l ≠ [] := by rw [hp]; simp
  have c1 := fun k => pcut l l0 k
  have i0 : ∀ k, ixD (pls l) (.int 0) k = k (pl p0) := fun k => by
    rw [hp]
    show asO (L2.atI ((p0 :: l.tail).map pl) 0) k = _
    rw [List.map_cons, atc]
    rfl
  have a1 := fun x => padd l (by omega) x
  have a2 := fun x => padd l.dropLast (by simp; omega) x
  have mu := pmul l p0 n2 (by omega)
  have l1 : ∀ k, lenD (pls l) k = k l.length := fun k => by simp [pls]
  simp only [M19, evSs, evS, evE, evEs, slotV_v, List.getElem?_cons_succ, List.getElem?_cons_zero, isNo, asP_n, asP_i, asI_i, c1, i0, a1, a2, pr_len, pr_lst, l1, mu, asS_pls, List.set_cons_succ, List.set_cons_zero, seqK_n]
  have e1 : PyData.tuple (l.map pl ++ [.tuple [.int 9, .int 9, .int 0]]) = pls (l ++ [⟨9, 9, 0⟩]) := by simp [pls, pl]
  rw [e1]
  exact h
theorem m20 {D : Dn} (hD : DnOk D) (p0 : Pl) (hp : D.st = p0 :: D.st.tail) (S4 S5 S6 S7 S8 S9 S10 S11 S12 S14 S15 S17 S18 S19 : Slot)
    (h : evSs (callD T 24) ss [.un, .st, K, .v D.val, S4, S5, S6, S7, S8, S9, S10, S11, S12, .v (.list (bl D.st p0)), S14, S15, .v (pls D.st), S17, S18, S19] q e) :
    evSs (callD T 24) (.cons M20 ss) [.un, .st, K, .v D.val, S4, S5, S6, S7, S8, S9, S10, S11, S12, .v (.list (bl D.st p0)), S14, S15, .v (pls D.st), S17, S18, S19] q e := by
  have sl := hD.stlen
  have dl := hD.dslen
  have m2 := hD.m2
  have m4 := hD.m4
  have l0 : D.st ≠ [] := by rw [hp]; simp
  have fcd : ∀ p ∈ D.st.dropLast, FcOk p := fun p m => hD.fc p ((List.dropLast_sublist _).subset m)
  have dlen : D.st.dropLast.length = D.m - 1 := by rw [List.length_dropLast, sl]
  have key : ∀ v ∈ bl D.st p0, ∀ q e, callD T 24 10 [.v D.val, .v v] q e = q (.bool false) [.v D.val, .v v] := by
    intro v hv q e
    simp only [bl, List.mem_cons, List.not_mem_nil, or_false] at hv
    rcases hv with hv | hv | hv | hv | hv | hv | hv | hv <;> rw [hv]
    · exact set_len D.val D.ds (ix1 D) q e 23 _ (by rw [List.length_map]; omega)
    · exact set_len D.val D.ds (ix1 D) q e 23 _ (by rw [List.length_map, List.length_append, List.length_cons, List.length_nil]; omega)
    · exact set_non D.val q e 23 _ rfl
    · have hf : FcOk p0 := hD.fc p0 (by rw [hp]; exact List.mem_cons_self)
      have := c_set D.val D.ds (ix1 D) q e 23 (List.replicate D.st.length p0) (by rw [List.length_replicate]; omega) (by rw [List.length_replicate]; omega) (fun p m => by rw [List.eq_of_mem_replicate m]; exact hf)
      have ns : ¬ Spots (List.replicate D.st.length p0) := by
        obtain ⟨k, hk⟩ : ∃ k, D.st.length = k + 2 := ⟨D.st.length - 2, by omega⟩
        rw [hk]
        intro z
        unfold Spots at z
        simp [List.replicate_succ] at z
      rw [decide_eq_false ns] at this
      exact this
    · exact set_bad D.val D.ds (ix1 D) q e 23 _ fcd _ (.inl rfl) (by omega)
    · exact set_bad D.val D.ds (ix1 D) q e 23 _ fcd _ (.inr (.inl rfl)) (by omega)
    · exact set_bad D.val D.ds (ix1 D) q e 23 _ fcd _ (.inr (.inr rfl)) (by omega)
    · exact set_non D.val q e 23 _ rfl
  have good : ∀ q e, callD T 24 10 [.v D.val, .v (.tuple (D.st.dropLast.map pl ++ [.tuple [.int 500, .int (-500), .int 3]]))] q e = q (.bool true) [.v D.val, .v (.tuple (D.st.dropLast.map pl ++ [.tuple [.int 500, .int (-500), .int 3]]))] := fun q e => by
    have := c_set D.val D.ds (ix1 D) q e 23 (D.st.dropLast ++ ([⟨500, -500, 3⟩] : List Pl)) (by rw [List.length_append, List.length_cons, List.length_nil]; omega) (by rw [List.length_append, List.length_cons, List.length_nil]; omega) (fun p m => by
      rcases List.mem_append.mp m with m | m
      · exact fcd p m
      · rw [List.mem_singleton.mp m]; exact ⟨by decide, by decide⟩)
    have sp : Spots (D.st.dropLast ++ ([⟨500, -500, 3⟩] : List Pl)) := by
      show ((D.st.dropLast ++ ([⟨500, -500, 3⟩] : List Pl)).map fun p : Pl => (p.a, p.b)).Nodup
      rw [List.map_append, List.map_dropLast, hD.sp]
      exact DnOk.three hD (P := fun m _ _ => ((spotL.take m).dropLast ++ [((500 : Int), (-500 : Int))]).Nodup) (by decide)
    rw [decide_eq_true sp] at this
    have e1 : pls (D.st.dropLast ++ ([⟨500, -500, 3⟩] : List Pl)) = .tuple (D.st.dropLast.map pl ++ [.tuple [.int 500, .int (-500), .int 3]]) := by simp [pls, pl]
    rw [e1] at this
    exact this
  have c1 := fun k => pcut D.st l0 k
  have a2 := fun x => padd D.st.dropLast (by omega) x
  simp only [M20, evSs, evS, evE, evEs, evAr, evI, slotV_v, List.getElem?_cons_succ, List.getElem?_cons_zero, asS_l, tgs, wipeE, setTg, List.set_cons_succ, List.set_cons_zero, asB_b, if_true]
  rw [cmpF_none fun v hv k => by
    rw [key v hv]
    simp only [isn_f, asB_b, Bool.false_eq_true, if_false]]
  simp only [pr_len, lenD_l, List.length_nil, gt_0, asB_b, Bool.false_eq_true, if_false, isNo, asP_n, asP_i, asI_i, c1, a2]
  rw [good]
  simp only [isn_t, asB_b, Bool.false_eq_true, if_false, seqK_n]
  exact h
end
end Pv
set_option linter.all false
set_option maxRecDepth 100000
set_option maxHeartbeats 400000
namespace Pv
open PySem PySem.W
section
variable (D : Dn)
def dGT : PyData := .tuple (((gps D.ds).map grp).map pairT)
def dST : PyData := .tuple (ss4.map pairT)
def dCT : PyData := .tuple (D.cl.map pairT)
def o21 : List PyData := [.none, .list [.str "dance", dsT D.ds, dGT D, dST, dCT D, pls D.st], .tuple [.str "dance", dsT D.ds, dGT D, dST, dCT D], .tuple [.str "other", dsT D.ds, dGT D, dST, dCT D, pls D.st], .tuple [.str "dance", dsT D.ds, dGT D, dST, dCT D, pls D.st.dropLast],
  .tuple [.str "dance", dsT (D.ds ++ ([("a" : Str)] : List Str)), dGT D, dST, dCT D, pls D.st]]
def o22 (c0 : Str × PyData) : List PyData := [.tuple [.str "dance", .tuple [], dGT D, dST, dCT D, pls D.st], .tuple [.str "dance", dsT D.ds, .tuple [.tuple [.str "men", .tuple [.str "zoo"]]], dST, dCT D, pls D.st], .tuple [.str "dance", dsT D.ds, dGT D, dST, .tuple ((D.cl ++ [c0]).map pairT), pls D.st]]
def o23 : List PyData := [.tuple [.str "dance", dsT D.ds, dGT D, .tuple ((((("single" : Str), PyData.tuple []) :: ss4.tail)).map pairT), dCT D, pls D.st], .tuple [.str "dance", dsT D.ds, dGT D, dST, .tuple [.tuple [.str "zoo", .tuple [.str "as", .tuple [.str "call", .str "zoo"]]]], pls D.st]]
def o24 : List PyData := [.tuple [.str "dance", dsT D.ds, dGT D, dST, .tuple [.tuple [.str "zip", .tuple [.str "as", .tuple [.str "call", .str "zap"]]], .tuple [.str "zap", .tuple [.str "as", .tuple [.str "left"]]]], pls D.st], .tuple [.str "dance", dsT D.ds, dGT D, dST, dCT D, pls (D.st.dropLast ++ ([⟨21, 0, 0⟩] : List Pl))]]
def o25 : List PyData := [.tuple [.str "dance", dsT D.ds, dGT D, dST, .list [], pls D.st], .tuple [.str "dance", dsT D.ds, .tuple [.tuple [.str "a", .tuple [.str "a"]]], dST, dCT D, pls D.st]]
end
section
variable {D : Dn} (hD : DnOk D)
include hD
/-- names that are otherwise: by three small numbers -/
theorem nm_by (ds gs sl : Nat → List Str) (cl : Nat → Nat → List Str) (gl' sl' cl' : List (Str × PyData)) (ds' : List Str) (e1 : ds' = ds D.m) (e2 : gl'.map (·.1) = gs D.m) (e3 : sl'.map (·.1) = sl D.m) (e4 : cl'.map (·.1) = cl D.a D.b)
    (ok : ∀ m ∈ [2, 3, 4], ∀ a ∈ [1, 2, 3], ∀ b ∈ [0, 1, 2], (ds m ≠ [] ∧ (ds m).length ≤ 8 ∧ (gs m).length ≤ 20 ∧ (sl m).length ≤ 20 ∧ (cl a b).length ≤ 20) ∧ (∀ x ∈ ds m ++ gs m ++ sl m ++ cl a b, nameB x = true) ∧ (ds m ++ gs m ++ sl m ++ cl a b).length ≤ 60) : NmOk ds' gl' sl' cl' := by
  have := DnOk.three hD (P := fun m a b => (ds m ≠ [] ∧ (ds m).length ≤ 8 ∧ (gs m).length ≤ 20 ∧ (sl m).length ≤ 20 ∧ (cl a b).length ≤ 20) ∧ (∀ x ∈ ds m ++ gs m ++ sl m ++ cl a b, nameB x = true) ∧ (ds m ++ gs m ++ sl m ++ cl a b).length ≤ 60) ok
  unfold NmOk namesOf
  rw [← e1, ← e2, ← e3, ← e4] at this
  simpa only [List.length_map] using this
theorem nd_by (ds gs sl : Nat → List Str) (cl : Nat → Nat → List Str) (gl' sl' cl' : List (Str × PyData)) (ds' : List Str) (e1 : ds' = ds D.m) (e2 : gl'.map (·.1) = gs D.m) (e3 : sl'.map (·.1) = sl D.m) (e4 : cl'.map (·.1) = cl D.a D.b) (b0 : Bool)
    (ok : ∀ m ∈ [2, 3, 4], ∀ a ∈ [1, 2, 3], ∀ b ∈ [0, 1, 2], decide (ds m ++ gs m ++ sl m ++ cl a b).Nodup = b0) : decide (namesOf ds' gl' sl' cl').Nodup = b0 := by
  have := DnOk.three hD (P := fun m a b => decide (ds m ++ gs m ++ sl m ++ cl a b).Nodup = b0) ok
  unfold namesOf
  rw [e1, e2, e3, e4]
  exact this
abbrev sN : List Str := ["single", "pair", "face", "tandem"]
abbrev cN (a b : Nat) : List Str := onL.take a ++ asL2.take b
theorem tail_of {R : Prop} (h : R) : R := h
theorem od21 : ∀ v ∈ o21 D, ∀ q e, callD T 24 6 [.v v] q e = q (.bool false) [.v v] := by
  have sl := hD.stlen
  have dl := hD.dslen
  have m2 := hD.m2
  have m4 := hD.m4
  intro v hv q e
  simp only [o21, List.mem_cons, List.not_mem_nil, or_false] at hv
  rcases hv with hv | hv | hv | hv | hv | hv <;> rw [hv]
  · exact dance_non q e 23 _ rfl
  · exact dance_non q e 23 _ rfl
  · exact dance_len q e 23 _ rfl
  · exact dance_oth q e 23 _ rfl
  · have dn : D.st.dropLast.length = D.m - 1 := by rw [List.length_dropLast, sl]
    have := dance_end D.ds ((gps D.ds).map grp) ss4 D.cl q e 21 D.st.dropLast (fun z => by rw [z] at dn; simp at dn; omega) (by omega) hD.nmok hD.nodup
    rw [if_neg (fun z => by omega)] at this
    exact this
  · have ok := nm_by hD (fun m => dL.take m ++ ([("a" : Str)] : List Str)) (fun _ => gN) (fun _ => sN) cN ((gps D.ds).map grp) ss4 D.cl (D.ds ++ ([("a" : Str)] : List Str)) rfl rfl rfl hD.nm (by decide +kernel)
    have nd := nd_by hD (fun m => dL.take m ++ ([("a" : Str)] : List Str)) (fun _ => gN) (fun _ => sN) cN ((gps D.ds).map grp) ss4 D.cl (D.ds ++ ([("a" : Str)] : List Str)) rfl rfl rfl hD.nm false (by decide +kernel)
    exact dance_dup _ _ _ _ q e 22 (pls D.st) ok (of_decide_eq_false nd) rfl
theorem od22 (c0 : Str × PyData) (hc : D.cl = c0 :: D.cl.tail) : ∀ v ∈ o22 D c0, ∀ q e, callD T 24 6 [.v v] q e = q (.bool false) [.v v] := by
  have sl := hD.stlen
  have dl := hD.dslen
  have m2 := hD.m2
  have m4 := hD.m4
  intro v hv q e
  simp only [o22, List.mem_cons, List.not_mem_nil, or_false] at hv
  have zd : ("zoo" : Str) ∉ D.ds := by
    show ("zoo" : Str) ∉ dL.take D.m
    exact DnOk.three hD (P := fun m _ _ => ("zoo" : Str) ∉ dL.take m) (by decide)
  have l0 : D.st ≠ [] := fun z => by rw [z] at sl; simp at sl; omega
  have c1 : c0.1 = "swap" := by
    have := hD.nm
    rw [hc, List.map_cons] at this
    have h0 := congrArg (·[0]?) this
    have : (onL.take D.a ++ asL2.take D.b)[0]? = some ("swap" : Str) := DnOk.three hD (P := fun _ a b => (onL.take a ++ asL2.take b)[0]? = some ("swap" : Str)) (by decide)
    rw [this] at h0
    exact Option.some.inj h0
  rcases hv with hv | hv | hv <;> rw [hv]
  · exact dance_nil q e 23 _ _ _ _
  · have ok := nm_by hD (fun m => dL.take m) (fun _ => ["men"]) (fun _ => sN) cN [(("men" : Str), PyData.tuple [.str "zoo"])] ss4 D.cl D.ds rfl rfl rfl hD.nm (by decide +kernel)
    have nd := nd_by hD (fun m => dL.take m) (fun _ => ["men"]) (fun _ => sN) cN [(("men" : Str), PyData.tuple [.str "zoo"])] ss4 D.cl D.ds rfl rfl rfl hD.nm true (by decide +kernel)
    have := dance_end D.ds [(("men" : Str), PyData.tuple [.str "zoo"])] ss4 D.cl q e 21 D.st l0 (by omega) ok (of_decide_eq_true nd)
    rw [if_pos ⟨⟨hD.okp, hD.spots⟩, by omega⟩] at this
    exact this.trans (t_bad1 D.ds (dST) (pls D.st) _ _ 21 D.cl zd)
  · have ok := nm_by hD (fun m => dL.take m) (fun _ => gN) (fun _ => sN) (fun a b => cN a b ++ (["swap"] : List Str)) ((gps D.ds).map grp) ss4 (D.cl ++ [c0]) D.ds rfl rfl rfl (by rw [List.map_append, hD.nm, List.map_cons, c1]; rfl) (by decide +kernel)
    have nd := nd_by hD (fun m => dL.take m) (fun _ => gN) (fun _ => sN) (fun a b => cN a b ++ (["swap"] : List Str)) ((gps D.ds).map grp) ss4 (D.cl ++ [c0]) D.ds rfl rfl rfl (by rw [List.map_append, hD.nm, List.map_cons, c1]; rfl) false (by decide +kernel)
    exact dance_dup _ _ _ _ q e 22 (pls D.st) ok (of_decide_eq_false nd) rfl
theorem od23 : ∀ v ∈ o23 D, ∀ q e, callD T 24 6 [.v v] q e = q (.bool false) [.v v] := by
  have sl := hD.stlen
  have dl := hD.dslen
  have m2 := hD.m2
  have m4 := hD.m4
  intro v hv q e
  simp only [o23, List.mem_cons, List.not_mem_nil, or_false] at hv
  have l0 : D.st ≠ [] := fun z => by rw [z] at sl; simp at sl; omega
  rcases hv with hv | hv <;> rw [hv]
  · have ok := nm_by hD (fun m => dL.take m) (fun _ => gN) (fun _ => sN) cN ((gps D.ds).map grp) ((("single" : Str), PyData.tuple []) :: ss4.tail) D.cl D.ds rfl rfl rfl hD.nm (by decide +kernel)
    have nd := nd_by hD (fun m => dL.take m) (fun _ => gN) (fun _ => sN) cN ((gps D.ds).map grp) ((("single" : Str), PyData.tuple []) :: ss4.tail) D.cl D.ds rfl rfl rfl hD.nm true (by decide +kernel)
    have := dance_end D.ds ((gps D.ds).map grp) ((("single" : Str), PyData.tuple []) :: ss4.tail) D.cl q e 21 D.st l0 (by omega) ok (of_decide_eq_true nd)
    rw [if_pos ⟨⟨hD.okp, hD.spots⟩, by omega⟩] at this
    refine this.trans (t_bad2 D.ds (dCT D) (pls D.st) _ _ 21 (gps D.ds) hD.gsok _ ⟨fun a => decide (a.1 ≠ "single"), by decide, ?_⟩)
    intro a ha q e
    rcases List.mem_cons.mp ha with rfl | ha
    · exact are_nil 21 q e
    · have h4 := c_are4 20 a (List.mem_of_mem_tail ha) q e
      have ne : ∀ a ∈ ss4.tail, decide (a.1 ≠ "single") = true := by decide
      show _ = q (.bool (decide (a.1 ≠ "single"))) _
      rw [ne a ha]
      exact h4
  · have ok := nm_by hD (fun m => dL.take m) (fun _ => gN) (fun _ => sN) (fun _ _ => ["zoo"]) ((gps D.ds).map grp) ss4 [(("zoo" : Str), PyData.tuple [.str "as", pcall "zoo"])] D.ds rfl rfl rfl rfl (by decide +kernel)
    have nd := nd_by hD (fun m => dL.take m) (fun _ => gN) (fun _ => sN) (fun _ _ => ["zoo"]) ((gps D.ds).map grp) ss4 [(("zoo" : Str), PyData.tuple [.str "as", pcall "zoo"])] D.ds rfl rfl rfl rfl true (by decide +kernel)
    have := dance_end D.ds ((gps D.ds).map grp) ss4 [(("zoo" : Str), PyData.tuple [.str "as", pcall "zoo"])] q e 21 D.st l0 (by omega) ok (of_decide_eq_true nd)
    rw [if_pos ⟨⟨hD.okp, hD.spots⟩, by omega⟩] at this
    exact this.trans (t_bad3 D.ds (pls D.st) _ _ 10 (gps D.ds) hD.gsok "zoo" "zoo" [])
theorem od24 : ∀ v ∈ o24 D, ∀ q e, callD T 24 6 [.v v] q e = q (.bool false) [.v v] := by
  have sl := hD.stlen
  have dl := hD.dslen
  have m2 := hD.m2
  have m4 := hD.m4
  intro v hv q e
  simp only [o24, List.mem_cons, List.not_mem_nil, or_false] at hv
  have l0 : D.st ≠ [] := fun z => by rw [z] at sl; simp at sl; omega
  rcases hv with hv | hv <;> rw [hv]
  · have ok := nm_by hD (fun m => dL.take m) (fun _ => gN) (fun _ => sN) (fun _ _ => ["zip", "zap"]) ((gps D.ds).map grp) ss4 [(("zip" : Str), PyData.tuple [.str "as", pcall "zap"]), (("zap" : Str), PyData.tuple [.str "as", pturn "left"])] D.ds rfl rfl rfl rfl (by decide +kernel)
    have nd := nd_by hD (fun m => dL.take m) (fun _ => gN) (fun _ => sN) (fun _ _ => ["zip", "zap"]) ((gps D.ds).map grp) ss4 [(("zip" : Str), PyData.tuple [.str "as", pcall "zap"]), (("zap" : Str), PyData.tuple [.str "as", pturn "left"])] D.ds rfl rfl rfl rfl true (by decide +kernel)
    have := dance_end D.ds ((gps D.ds).map grp) ss4 [(("zip" : Str), PyData.tuple [.str "as", pcall "zap"]), (("zap" : Str), PyData.tuple [.str "as", pturn "left"])] q e 21 D.st l0 (by omega) ok (of_decide_eq_true nd)
    rw [if_pos ⟨⟨hD.okp, hD.spots⟩, by omega⟩] at this
    exact this.trans (t_bad3 D.ds (pls D.st) _ _ 10 (gps D.ds) hD.gsok "zip" "zap" [(("zap" : Str), PyData.tuple [.str "as", pturn "left"])])
  · have dn : (D.st.dropLast ++ ([⟨21, 0, 0⟩] : List Pl)).length = D.m := by rw [List.length_append, List.length_dropLast, sl, List.length_cons, List.length_nil]; omega
    have := dance_end D.ds ((gps D.ds).map grp) ss4 D.cl q e 21 (D.st.dropLast ++ ([⟨21, 0, 0⟩] : List Pl)) (by simp) (by omega) hD.nmok hD.nodup
    have no : ¬ (((∀ p ∈ D.st.dropLast ++ ([⟨21, 0, 0⟩] : List Pl), OkP p) ∧ Spots (D.st.dropLast ++ ([⟨21, 0, 0⟩] : List Pl))) ∧ (D.st.dropLast ++ ([⟨21, 0, 0⟩] : List Pl)).length = D.ds.length) := fun z => by
      have h21 := z.1.1 ⟨21, 0, 0⟩ (List.mem_append_right _ List.mem_cons_self)
      exact absurd h21 (by decide)
    rw [if_neg no] at this
    exact this
theorem od25 : ∀ v ∈ o25 D, ∀ q e, callD T 24 6 [.v v] q e = q (.bool false) [.v v] := by
  have sl := hD.stlen
  have dl := hD.dslen
  have m2 := hD.m2
  have m4 := hD.m4
  intro v hv q e
  simp only [o25, List.mem_cons, List.not_mem_nil, or_false] at hv
  rcases hv with hv | hv <;> rw [hv]
  · exact dance_lst q e 23 _ _ _ _
  · have ok := nm_by hD (fun m => dL.take m) (fun _ => ["a"]) (fun _ => sN) cN [(("a" : Str), PyData.tuple [.str "a"])] ss4 D.cl D.ds rfl rfl rfl hD.nm (by decide +kernel)
    have nd := nd_by hD (fun m => dL.take m) (fun _ => ["a"]) (fun _ => sN) cN [(("a" : Str), PyData.tuple [.str "a"])] ss4 D.cl D.ds rfl rfl rfl hD.nm false (by decide +kernel)
    exact dance_dup D.ds [(("a" : Str), PyData.tuple [.str "a"])] ss4 D.cl q e 22 (pls D.st) ok (of_decide_eq_false nd) rfl
end
end Pv
set_option linter.all false
set_option maxRecDepth 100000
set_option maxHeartbeats 400000
namespace Pv
open PySem PySem.W
section
variable (D : Dn)
theorem dv : D.val = .tuple [.str "dance", dsT D.ds, dGT D, dST, dCT D, pls D.st] := rfl
theorem v_m1 (k) : cutD D.val none (some (-1)) k = k (.tuple [.str "dance", dsT D.ds, dGT D, dST, dCT D]) := rfl
theorem v_1 (k) : cutD D.val (some 1) none k = k (.tuple [dsT D.ds, dGT D, dST, dCT D, pls D.st]) := rfl
theorem v_2 (k) : cutD D.val (some 2) none k = k (.tuple [dGT D, dST, dCT D, pls D.st]) := rfl
theorem v_3 (k) : cutD D.val (some 3) none k = k (.tuple [dST, dCT D, pls D.st]) := rfl
theorem v_4 (k) : cutD D.val (some 4) none k = k (.tuple [dCT D, pls D.st]) := rfl
theorem v1_ (k) : cutD D.val none (some 1) k = k (.tuple [.str "dance"]) := rfl
theorem v2_ (k) : cutD D.val none (some 2) k = k (.tuple [.str "dance", dsT D.ds]) := rfl
theorem v3_ (k) : cutD D.val none (some 3) k = k (.tuple [.str "dance", dsT D.ds, dGT D]) := rfl
theorem v4_ (k) : cutD D.val none (some 4) k = k (.tuple [.str "dance", dsT D.ds, dGT D, dST]) := rfl
theorem v5_ (k) : cutD D.val none (some 5) k = k (.tuple [.str "dance", dsT D.ds, dGT D, dST, dCT D]) := rfl
theorem vS (k) : cutD dST (some 1) none k = k (.tuple (ss4.tail.map pairT)) := rfl
theorem asS_v (k) : asS D.val k = k [.str "dance", dsT D.ds, dGT D, dST, dCT D, pls D.st] := rfl
theorem jx1 (k) : ixD D.val (.int 1) k = k (dsT D.ds) := rfl
theorem jx3 (k) : ixD D.val (.int 3) k = k dST := rfl
theorem jx4 (k) : ixD D.val (.int 4) k = k (dCT D) := rfl
theorem vC {c0 : Str × PyData} (hc : D.cl = c0 :: D.cl.tail) (k) : cutD (dCT D) none (some 1) k = k (.tuple [pairT c0]) := by
  show cutD (.tuple (D.cl.map pairT)) none (some 1) k = _
  rw [hc, List.map_cons, cutD_t, cutH]
end
section
variable (K : Slot) (q : Fl → Prop) (e : Ex → Env → Prop) (ss : CSs)
theorem m21 {D : Dn} (hD : DnOk D) (hd : D.ds = ("a" : Str) :: D.ds.tail) (S4 S5 S6 S7 S8 S9 S10 S11 S12 S13 S14 S15 S17 : Slot) (r : List Slot) (h : evSs (callD T 24) ss (.un :: .st :: K :: .v D.val :: S4 :: S5 :: S6 :: S7 :: S8 :: S9 :: S10 :: S11 :: S12 :: S13 :: S14 :: S15 :: .v (pls D.st) :: .v (.list (o21 D)) :: r) q e) :
    evSs (callD T 24) (.cons M21 ss) (.un :: .st :: K :: .v D.val :: S4 :: S5 :: S6 :: S7 :: S8 :: S9 :: S10 :: S11 :: S12 :: S13 :: S14 :: S15 :: .v (pls D.st) :: S17 :: r) q e := by
  have sl := hD.stlen
  have dl := hD.dslen
  have m2 := hD.m2
  have m4 := hD.m4
  have l0 : D.st ≠ [] := fun z => by rw [z] at sl; simp at sl; omega
  have c1 := fun k => pcut D.st l0 k
  have c2 := fun k => cutHd hd k
  have a2 : opD .add (dsT D.ds) (.tuple [.str "a"]) = fun k => k (dsT (D.ds ++ ([("a" : Str)] : List Str))) := by
    funext k
    rw [addT _ _ _ (lim (by simp; omega))]
    show _ = k (.tuple ((D.ds ++ ([("a" : Str)] : List Str)).map .str))
    simp
  simp only [M21, evSs, evS, evE, evEs, slotV_v, List.getElem?_cons_succ, List.getElem?_cons_zero, isNo, asP_n, asP_i, asI_i, pr_lst, asS_v, v_m1, v_1, v5_, v1_, v_2, jx1, c1, c2, a2]
  rw [addT _ _ _ (lim (by simp)), addT _ _ _ (lim (by simp)), addT _ _ _ (lim (by simp)), addT _ _ _ (lim (by simp))]
  simp only [List.set_cons_succ, List.set_cons_zero, seqK_n, List.cons_append, List.nil_append]
  exact h
theorem m22 {D : Dn} (hD : DnOk D) {c0 : Str × PyData} (hc : D.cl = c0 :: D.cl.tail) (S4 S5 S6 S7 S8 S9 S10 S11 S12 S13 S14 S15 : Slot) (r : List Slot) (h : evSs (callD T 24) ss (.un :: .st :: K :: .v D.val :: S4 :: S5 :: S6 :: S7 :: S8 :: S9 :: S10 :: S11 :: S12 :: S13 :: S14 :: S15 :: .v (pls D.st) :: .v (.list (o21 D ++ o22 D c0)) :: r) q e) :
    evSs (callD T 24) (.cons M22 ss) (.un :: .st :: K :: .v D.val :: S4 :: S5 :: S6 :: S7 :: S8 :: S9 :: S10 :: S11 :: S12 :: S13 :: S14 :: S15 :: .v (pls D.st) :: .v (.list (o21 D)) :: r) q e := by
  have cl := hD.cllen
  have := hD.a3
  have := hD.b2
  have c1 := fun k => vC D hc k
  have a2 : opD .add (dCT D) (.tuple [pairT c0]) = fun k => k (.tuple ((D.cl ++ [c0]).map pairT)) := by
    funext k
    show opD .add (.tuple (D.cl.map pairT)) _ k = _
    rw [addT _ _ _ (lim (by simp; omega))]
    simp
  simp only [M22, evSs, evS, evE, evEs, slotV_v, List.getElem?_cons_succ, List.getElem?_cons_zero, isNo, asP_n, asP_i, asI_i, v2_, v_3, v4_, v1_, v_2, jx4, c1, a2]
  rw [addT _ _ _ (lim (by simp)), addT _ _ _ (lim (by simp)), addT _ _ _ (lim (by simp)), addT _ _ _ (lim (by simp)), addT _ _ _ (lim (by simp)), addL _ _ _ (lim (by simp [o21]))]
  simp only [List.set_cons_succ, List.set_cons_zero, seqK_n, List.cons_append, List.nil_append]
  exact h
theorem m23 {D : Dn} (xs : List PyData) (nx : xs.length ≤ 100) (S4 S5 S6 S7 S8 S9 S10 S11 S12 S13 S14 S15 : Slot) (r : List Slot) (h : evSs (callD T 24) ss (.un :: .st :: K :: .v D.val :: S4 :: S5 :: S6 :: S7 :: S8 :: S9 :: S10 :: S11 :: S12 :: S13 :: S14 :: S15 :: .v (pls D.st) :: .v (.list (xs ++ o23 D)) :: r) q e) :
    evSs (callD T 24) (.cons M23 ss) (.un :: .st :: K :: .v D.val :: S4 :: S5 :: S6 :: S7 :: S8 :: S9 :: S10 :: S11 :: S12 :: S13 :: S14 :: S15 :: .v (pls D.st) :: .v (.list xs) :: r) q e := by
  simp only [M23, evSs, evS, evE, evEs, slotV_v, List.getElem?_cons_succ, List.getElem?_cons_zero, isNo, asP_n, asP_i, asI_i, v3_, v_4, v4_, jx3, vS]
  rw [addT _ _ _ (lim (by simp [ss4, sh4])), addT _ _ _ (lim (by simp)), addT _ _ _ (lim (by simp)), addT _ _ _ (lim (by simp)), addL _ _ _ (lim (by simp; omega))]
  simp only [List.set_cons_succ, List.set_cons_zero, seqK_n, List.cons_append, List.nil_append]
  exact h
theorem m24 {D : Dn} (hD : DnOk D) (xs : List PyData) (nx : xs.length ≤ 100) (S4 S5 S6 S7 S8 S9 S10 S11 S12 S13 S14 S15 : Slot) (r : List Slot) (h : evSs (callD T 24) ss (.un :: .st :: K :: .v D.val :: S4 :: S5 :: S6 :: S7 :: S8 :: S9 :: S10 :: S11 :: S12 :: S13 :: S14 :: S15 :: .v (pls D.st) :: .v (.list (xs ++ o24 D)) :: r) q e) :
    evSs (callD T 24) (.cons M24 ss) (.un :: .st :: K :: .v D.val :: S4 :: S5 :: S6 :: S7 :: S8 :: S9 :: S10 :: S11 :: S12 :: S13 :: S14 :: S15 :: .v (pls D.st) :: .v (.list xs) :: r) q e := by
  have sl := hD.stlen
  have m2 := hD.m2
  have m4 := hD.m4
  have l0 : D.st ≠ [] := fun z => by rw [z] at sl; simp at sl; omega
  have c1 := fun k => pcut D.st l0 k
  have a2 : opD .add (pls D.st.dropLast) (.tuple [.tuple [.int 21, .int 0, .int 0]]) = fun k => k (pls (D.st.dropLast ++ ([⟨21, 0, 0⟩] : List Pl))) := by
    funext k
    rw [padd D.st.dropLast (by simp; omega)]
    simp [pls, pl]
  simp only [M24, evSs, evS, evE, evEs, slotV_v, List.getElem?_cons_succ, List.getElem?_cons_zero, isNo, asP_n, asP_i, asI_i, v5_, v4_, c1, a2]
  rw [addT _ _ _ (lim (by simp)), addT _ _ _ (lim (by simp)), addL _ _ _ (lim (by simp; omega))]
  simp only [List.set_cons_succ, List.set_cons_zero, seqK_n, List.cons_append, List.nil_append]
  exact h
theorem m25 {D : Dn} (xs : List PyData) (nx : xs.length ≤ 100) (S4 S5 S6 S7 S8 S9 S10 S11 S12 S13 S14 S15 : Slot) (r : List Slot) (h : evSs (callD T 24) ss (.un :: .st :: K :: .v D.val :: S4 :: S5 :: S6 :: S7 :: S8 :: S9 :: S10 :: S11 :: S12 :: S13 :: S14 :: S15 :: .v (pls D.st) :: .v (.list (xs ++ o25 D)) :: r) q e) :
    evSs (callD T 24) (.cons M25 ss) (.un :: .st :: K :: .v D.val :: S4 :: S5 :: S6 :: S7 :: S8 :: S9 :: S10 :: S11 :: S12 :: S13 :: S14 :: S15 :: .v (pls D.st) :: .v (.list xs) :: r) q e := by
  simp only [M25, evSs, evS, evE, evEs, slotV_v, List.getElem?_cons_succ, List.getElem?_cons_zero, isNo, asP_n, asP_i, asI_i, v2_, v4_, v_3]
  rw [addT _ _ _ (lim (by simp)), addT _ _ _ (lim (by simp)), addT _ _ _ (lim (by simp)), addL _ _ _ (lim (by simp; omega))]
  simp only [List.set_cons_succ, List.set_cons_zero, seqK_n, List.cons_append, List.nil_append]
  exact h
theorem m26 (xs : List PyData) (key : ∀ v ∈ xs, ∀ q e, callD T 24 6 [.v v] q e = q (.bool false) [.v v]) (S3 S4 S5 S6 S7 S8 S9 S10 S11 S12 S13 S14 S15 S16 S18 S19 : Slot)
    (h : evSs (callD T 24) ss [.un, .st, K, S3, S4, S5, S6, S7, S8, S9, S10, S11, S12, S13, S14, S15, S16, .v (.list xs), S18, S19] q e) :
    evSs (callD T 24) (.cons M26 ss) [.un, .st, K, S3, S4, S5, S6, S7, S8, S9, S10, S11, S12, S13, S14, S15, S16, .v (.list xs), S18, S19] q e := by
  simp only [M26, evSs, evS, evE, evEs, evAr, evI, slotV_v, List.getElem?_cons_succ, List.getElem?_cons_zero, asS_l, tgs, wipeE, setTg, List.set_cons_succ, List.set_cons_zero, asB_b, if_true]
  rw [cmpF_none fun v hv k => by
    rw [key v hv]
    simp only [isn_f, asB_b, Bool.false_eq_true, if_false]]
  simp only [pr_len, lenD_l, List.length_nil, gt_0, asB_b, Bool.false_eq_true, if_false, seqK_n]
  exact h
end
end Pv
set_option linter.all false
set_option maxRecDepth 100000
set_option maxHeartbeats 400000
namespace Pv
open PySem PySem.W
def lawD : Nat := 24
def env0 : Env := [.un, .st, .un, .un, .un, .un, .un, .un, .un, .un, .un, .un, .un, .un, .un, .un, .un, .un, .un, .un]
theorem hd_of {α : Type} {l : List α} (n : l ≠ []) : ∃ a, l = a :: l.tail := by
  cases l with
  | nil => exact absurd rfl n
  | cons a l => exact ⟨a, rfl⟩
theorem step (K : Slot) (q : Fl → Prop) (e : Ex → Env → Prop) (h : ∀ S3 S4 S5 S6 S7 S8 S9 S10 S11 S12 S13 S14 S15 S16 S17 S18 S19 : Slot, q (.nx [.un, .st, K, S3, S4, S5, S6, S7, S8, S9, S10, S11, S12, S13, S14, S15, S16, S17, S18, S19])) :
    evSs (callD T 24) Blaw_3 [.un, .st, K, .un, .un, .un, .un, .un, .un, .un, .un, .un, .un, .un, .un, .un, .un, .un, .un, .un] q e := by
  rw [M_rows]
  refine m1 K q e _ _ _ fun D hD => ?_
  have sl := hD.stlen
  have dl := hD.dslen
  have cl := hD.cllen
  have m2' := hD.m2
  have m4' := hD.m4
  have a1 := hD.a1
  have n0 : D.st ≠ [] := fun z => by rw [z] at sl; simp at sl; omega
  have c0 : D.cl ≠ [] := fun z => by rw [z] at cl; simp at cl; omega
  obtain ⟨p0, hp0⟩ := hd_of n0
  obtain ⟨k0, hc⟩ := hd_of c0
  have hd : D.ds = ("a" : Str) :: D.ds.tail := by
    show dL.take D.m = ("a" : Str) :: (dL.take D.m).tail
    exact DnOk.three hD (P := fun m _ _ => dL.take m = ("a" : Str) :: (dL.take m).tail) (by decide)
  have f1 : D.ds ≠ [] ∧ D.ds = D.ds.filter (fun x => decide (x ∈ D.ds)) := by
    show dL.take D.m ≠ [] ∧ dL.take D.m = (dL.take D.m).filter (fun x => decide (x ∈ dL.take D.m))
    exact DnOk.three hD (P := fun m _ _ => dL.take m ≠ [] ∧ dL.take m = (dL.take m).filter (fun x => decide (x ∈ dL.take m))) (by decide)
  have f2 : (["a"] : List Str) = D.ds.filter (fun x => decide (x ∈ (["a"] : List Str))) := by
    show (["a"] : List Str) = (dL.take D.m).filter (fun x => decide (x ∈ (["a"] : List Str)))
    exact DnOk.three hD (P := fun m _ _ => (["a"] : List Str) = (dL.take m).filter (fun x => decide (x ∈ (["a"] : List Str)))) (by decide)
  have f3 : stepG (-1) D.ds ≠ [] ∧ ¬ stepG (-1) D.ds = D.ds.filter (fun x => decide (x ∈ stepG (-1) D.ds)) := by
    show stepG (-1) (dL.take D.m) ≠ [] ∧ ¬ stepG (-1) (dL.take D.m) = (dL.take D.m).filter (fun x => decide (x ∈ stepG (-1) (dL.take D.m)))
    exact DnOk.three hD (P := fun m _ _ => stepG (-1) (dL.take m) ≠ [] ∧ ¬ stepG (-1) (dL.take m) = (dL.take m).filter (fun x => decide (x ∈ stepG (-1) (dL.take m)))) (by decide)
  have f4 : ¬ D.ds ++ ([("a" : Str)] : List Str) = D.ds.filter (fun x => decide (x ∈ D.ds ++ ([("a" : Str)] : List Str))) := by
    show ¬ dL.take D.m ++ ([("a" : Str)] : List Str) = (dL.take D.m).filter (fun x => decide (x ∈ dL.take D.m ++ ([("a" : Str)] : List Str)))
    exact DnOk.three hD (P := fun m _ _ => ¬ dL.take m ++ ([("a" : Str)] : List Str) = (dL.take m).filter (fun x => decide (x ∈ dL.take m ++ ([("a" : Str)] : List Str)))) (by decide)
  have f5 : ¬ (["zoo"] : List Str) = D.ds.filter (fun x => decide (x ∈ (["zoo"] : List Str))) := by
    show ¬ (["zoo"] : List Str) = (dL.take D.m).filter (fun x => decide (x ∈ (["zoo"] : List Str)))
    exact DnOk.three hD (P := fun m _ _ => ¬ (["zoo"] : List Str) = (dL.take m).filter (fun x => decide (x ∈ (["zoo"] : List Str)))) (by decide)
  have hs : (stepG (-1) (D.ds.map PyData.str)).length ≤ LIM := by
    rw [stepG_map, List.length_map]
    refine lim ?_
    show (stepG (-1) (dL.take D.m)).length ≤ 1000
    exact DnOk.three hD (P := fun m _ _ => (stepG (-1) (dL.take m)).length ≤ 1000) (by decide)
  refine m2 K q e _ hD _ _ _ _ _ _ _ _ _ _ ?_
  refine m3 K q e _ hD _ _ ?_
  refine m4 K q e _ hD _ _ _ fun p hp => ?_
  refine m5 K q e _ hD hp _ _ _ _ _ _ _ _ _ _ _ _ _ ?_
  refine m6 K q e _ hD hp _ _ _ _ ?_
  refine m7 K q e _ hD hp _ _ ?_
  refine m8 K q e _ _ _ _ _ _ .un _ _ ?_
  refine m9 K q e _ _ _ _ _ _ _ ?_
  refine m10 K q e _ D.cn _ _ _ _ ?_
  refine m11 K q e _ _ _ _ _ _ _ _ _ _ ?_
  refine m12 K q e _ D.cn _ _ _ _ _ _ ?_
  refine m13 K q e _ D.cn _ _ _ ?_
  refine m14 K q e hD _ _ _ _ _ _ _ _ _ _ ?_
  refine m15 K q e _ D _ _ _ _ _ _ _ _ _ _ _ _ ?_
  refine m16 K q e _ D.ds hd (by omega) (by omega) hs _ _ _ _ _ _ _ _ _ _ _ _ _ ?_
  refine m17 K q e _ D.ds f1 f2 f3 f4 f5 _ _ _ _ _ _ _ _ _ _ _ _ _ _ _ ?_
  refine m18 K q e _ D _ _ _ _ _ _ _ _ _ _ _ _ _ _ ?_
  refine m19 K q e _ D.st p0 hp0 (by omega) (by omega) _ _ _ _ _ _ _ _ _ _ _ _ _ _ ?_
  refine m20 K q e _ hD p0 hp0 _ _ _ _ _ _ _ _ _ _ _ _ _ _ ?_
  refine m21 K q e _ hD hd _ _ _ _ _ _ _ _ _ _ _ _ _ _ ?_
  refine m22 K q e _ hD hc _ _ _ _ _ _ _ _ _ _ _ _ _ ?_
  refine m23 K q e _ _ (by simp [o21, o22]) _ _ _ _ _ _ _ _ _ _ _ _ _ ?_
  refine m24 K q e _ hD _ (by simp [o21, o22, o23]) _ _ _ _ _ _ _ _ _ _ _ _ _ ?_
  refine m25 K q e _ _ (by simp [o21, o22, o23, o24]) _ _ _ _ _ _ _ _ _ _ _ _ _ ?_
  refine m26 K q e _ _ ?_ _ _ _ _ _ _ _ _ _ _ _ _ _ _ _ _ ?_
  · intro v hv q e
    simp only [List.mem_append] at hv
    rcases hv with (((hv | hv) | hv) | hv) | hv
    · exact od21 hD v hv q e
    · exact od22 hD k0 hc v hv q e
    · exact od23 hD v hv q e
    · exact od24 hD v hv q e
    · exact od25 hD v hv q e
  · exact h _ _ _ _ _ _ _ _ _ _ _ _ _ _ _ _ _
theorem turns_loop (e : Ex → Env → Prop) : ∀ (ks : List PyData) (q : Fl → Prop), q (.nx env0) →
   forL (.nm 2) [2, 3, 4, 5, 6, 7, 8, 9, 10, 11, 12, 13, 14, 15, 16, 17, 18, 19] (fun ρ1 q => evSs (callD T 24) Blaw_3 ρ1 q e) ks env0 q := by
  intro ks
  induction ks with
  | nil => intro q h; exact h
  | cons k ks ih =>
    intro q h
    rw [forL]
    simp only [env0, setTg, List.set_cons_succ, List.set_cons_zero]
    refine step _ _ e fun S3 S4 S5 S6 S7 S8 S9 S10 S11 S12 S13 S14 S15 S16 S17 S18 S19 => ?_
    simp only [turnK_n, wipeE, List.set_cons_succ, List.set_cons_zero]
    exact ih q h
theorem lawEv : evSs (callD T lawD) lawB (.un :: .st :: List.replicate (lawN.length - 2) .un) (endF 1 fun d _ => d = .bool true) (fun _ _ => False) := by
  show evSs (callD T 24) lawB env0 _ _
  rw [Z_rows, evSs]
  simp only [Z1, evS, evI, evE, asI_i]
  refine ⟨by decide, ?_⟩
  refine turns_loop _ _ _ ?_
  rw [seqK_n, evSs]
  simp only [Z2, evS, evE]
  rfl
end Pv
set_option Elab.async false
set_option linter.all false
set_option maxRecDepth 100000
set_option maxHeartbeats 0
namespace Pv
open PySem PySem.Spec L2
theorem noCX {P : Program} {w : World} {l : List PySem.Env} {H : Hp} {s : Shared} {e : Value} {s' : Shared} (h : L2.CX P w l H s (fun _ _ _ => False) e s') : False := by
  obtain ⟨_, _, _, _, _, _, _, _, _, _, _, _, z⟩ := h
  exact z
theorem cons_ht {α : Type} (d : α) : ∀ l : List α, l.isEmpty = false → l = l.headD d :: l.tail
  | [], h => by cases h
  | _ :: _, _ => rfl
theorem law_at {w : World} {K : PySem.W.Frag} {h : Heap} {mg : Str → Option Value} {fa : Addr} (X : K.In h) (G : h.Ns mainGlobals mg) (hfa : mg "law" = some (.ref fa)) (c : He.SaysX hdFa hdFn [] hdTf (exC cs) w h K) :
    LamX.LawAtS PySem.Challenge.rw_callswright_k03_whole_dances_of_any_kind w K (L2.CX prog0 w) (lawD + 2) 63 "script" mg fa h := by
  obtain ⟨fd, F, b, bA⟩ := fd_law c
  obtain ⟨fds, Fs, bs, _⟩ := fd__law_state c
  have e := hfa.symm.trans (gl_law X G c)
  cases e
  have Mm := hd_md X G c
  refine ⟨fd, hdTf.map (He.cT K), spLaw (hdT K) K, fun p hp => ?_, fun p hp => ?_, fun p hp => ?_, fun s u => bA s [u] rfl, fun H a ns hl _ hT hS => ⟨a, ns, rfl, hS, fun p hp => ?_, fun _ => rfl⟩, fun base Xb Gb TB => ?_⟩
  · obtain ⟨q, m, rfl⟩ := List.mem_map.mp hp
    exact c.empty q m
  · obtain ⟨q, m, rfl⟩ := List.mem_map.mp hp
    exact c.out q m
  · obtain ⟨q, m, rfl⟩ := List.mem_map.mp hp
    exact PySem.W.codeHd_of_K X (c.hd q m)
  · have : ∃ q ∈ hdTf, p.1 = (He.cT K q).2 := by cases hp
    obtain ⟨q, m, e⟩ := this
    have := hT (He.cT K q) (List.mem_map.mpr ⟨q, m, rfl⟩)
    exact LamX.TabS.nil (by rw [e]; exact this)
  · have ents := hd_ents (base := base) X G c fun p hp => TB _ (List.mem_map.mpr ⟨p, hp, rfl⟩)
    have cal := cal_all ents rfl
    have ST : FnOk prog0 w K mg base (L2.CX prog0 w) 1 (He.ga K "_law_state") fds ["script"] (spSt (hdP K).T K) := ok_state Mm Fs sc_state mt_state rfl
    exact law_ok (P := hdP K) (T := T) (d := lawD) Mm F sc_law rfl (cons_ht (.Pass ⟨0, 0, 0, 0⟩) _ (by decide +kernel)) m1_law mt_law rfl (by decide) (fun f x e => by
      obtain ⟨fa, fd, ps, a1, a2, a3, a4⟩ := cal lawD f x e
      exact ⟨fa, fd, ps, a1.mono (Nat.le_succ _), a2, a3, a4⟩) (ST.mono (by omega)) (gl__law_state X G c) Fs.kp bs lawEv
end Pv
open PySem PySem.W PySem.Calls PyProof.Rows
theorem PySem.Challenge.cw_callswright_k03_whole_dances_of_any_kind_holds : PySem.Challenge.rw_callswright_k03_whole_dances_of_any_kind.Holds := by
  w_on; o_law
  refine HandSHeadRun.head_any (r := OpenLaw.row PySem.Challenge.rw_callswright_k03_whole_dances_of_any_kind) (q := view (OpenLaw.row PySem.Challenge.rw_callswright_k03_whole_dances_of_any_kind).prog [44]) (H := Pv.hk) (ob := Pv.hdOb) (M := 6000) (loose := Pv.hdLo) (d := HandSHeadRun.topDef (OpenLaw.row PySem.Challenge.rw_callswright_k03_whole_dances_of_any_kind).prog 44) (kwd := []) Pv.ob_eq
    (by kernel_rfl) (fun s => by kernel_rfl) Pv.hdRun (by kernel_rfl) (by kernel_rfl) (by kernel_rfl) (by rfl) (by first | assumption | decide +kernel) (by decide +kernel) ⟨rfl, rfl, rfl, rfl, rfl, by decide +kernel⟩ ?hw ?hc
  case hw => w_witness2
  case hc =>
    refine LamX.walk_ofTsE (l := PySem.Challenge.rw_callswright_k03_whole_dances_of_any_kind) (n := 63) (k := Pv.lawD + 2) (x := "script") (CX := fun w => L2.CX Pv.prog0 w) rfl (by decide) (by kernel_rfl) ⟨rfl, by decide, by decide⟩ ?F (fun w H s e s' h => Pv.noCX h)
    intro w mg fa h Y G hmg0
    obtain ⟨K, KX, c⟩ := Y
    have hmg : mg ("law" : PySem.Str) = some (.ref fa) := by
      have e : (HandSHeadRun.topDef (OpenLaw.row PySem.Challenge.rw_callswright_k03_whole_dances_of_any_kind).prog 44).name = ("law" : PySem.Str) := by kernel_rfl
      rw [← e]
      exact hmg0
    exact ⟨K, KX, Pv.law_at KX G hmg c⟩
