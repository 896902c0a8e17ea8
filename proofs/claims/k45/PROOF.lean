import PyProof.Rows.All
import Wide.All
import OpenK.AllK
import Wide.FinOn
import HandS.ForMost
import HandS.TupAny
import HandS.Strs
import HandS.Deep
import HandS.Style
import HandS.SortInts
import HandS.IsInst
import HandS.Defaults
import HandS.TupLe
import KE.SortData
import KE.DataMinMax
import KE.DataCmp
import KE.DataFind
import PyProof.Rows.RowBridgeK
import HandS.Iter
import HandS.Zip
import HandS.Conv
import KE.GoesEnum
import HandS.Comp
import HandS.NoneIn
import HandS.Words
import HandS.HeadHook1
import HandS.HeadHook2
import HandS.HeadEnd
import HandS.Head0
import HandS.Head1
import HandS.Head2
import HandS.Star
import HandS.DictSubView0
import HandS.Head3
import PySem.Challenge.RW_roundorders_k45_whole_least_paths
set_option Elab.async false
section
set_option Elab.async false
set_option linter.all false
set_option maxRecDepth 100000
set_option maxHeartbeats 2000000
/-! New tuples known to their object (so that their methods may be called); slices with a step; t.index of data; sorted of a tuple. -/
namespace G
open PySem PySem.Spec PyProof.Rows L2
def tObj (its : List Value) : Obj := { cls := .type "tuple", data := .seq its.toArray }
/-- a new tuple at p, known -/
def NewT (H : Hp) (Q : VK) (xs : List V) : Prop := ∀ (p : Addr) (o : Obj), H p = none → o.cls = .type "tuple" → o.dict = none → Q (.ref p) (upd H p (.frz o (.tup xs)))
section
variable {X : Cx} {pins : List (Addr × Obj)} {σ : L2.St} {H : Hp} {s : Shared}
theorem tLaid {Q : VK} {xs : List V} {its : List Value} {h' : Heap} {t' : Nat} (I : Inv X pins σ H s) (k : ∀ b u, s.heap.get? b = some u → h'.get? b = some u) (hs : s.heap.objs.size ≤ h'.objs.size) (r : Vals xs its) (hz : xs.length ≤ sizeLine) (q : NewT H Q xs) :
    EP X pins σ Q (.ref h'.objs.size) { s with heap := h'.push (tObj its), toks := t' } := by
  have e : (h'.push (tObj its)).get? h'.objs.size = some (tObj its) := Heap.get?_push_size _ rfl
  refine ⟨.ref h'.objs.size, _, I.laid (a := h'.objs.size) (o := .frz (tObj its) (.tup xs)) (t' := t') (fun b u z => Heap.get?_push_of_some _ (k b u z)) hs ?_, rfl, q _ _ (I.hok.fresh hs) rfl rfl⟩
  exact ⟨e, hz, its, r, ⟨_, e, rfl, 0, rfl⟩⟩
/-! ### displays, tuple(l), t + u, t[a:b], divmod -/
def tTupF (t : TA) : TE := fun σ H Q => t σ H fun xs H1 => xs.length ≤ sizeLine ∧ NewT H1 Q xs
theorem pe_tupF {es : List Expr} {t : TA} {x1 : Nat} {pos : Pos} (h : PA X es t) : PE X (.Tuple es x1 pos) (tTupF t) := by
  refine ⟨fun pins s σ H Q I hq => ?_⟩
  exact wpAny_Tuple_spliced (thn (h.run pos pins s σ H _ I hq) fun us s1 ⟨xs, H1, I1, r, z, q⟩ => ⟨by rw [← r.length]; exact z, tLaid (h' := s1.heap) (t' := s1.toks) I1 (fun _ _ z => z) (Nat.le_refl _) r z q⟩)
theorem call_tupleF : CallR X (.type "tuple") (fun xs H Q => ∃ p ys, xs = [.ref p] ∧ ((SqL X.K H p ys ∧ NewT H Q ys) ∨ (SqT X.K H p ys ∧ Q (.ref p) H))) := by
  intro pins s σ H xs us Q I r h
  obtain ⟨p, ys, rfl, h⟩ := h
  obtain ⟨u, rfl, rx⟩ := vals1 r
  cases rx
  rcases h with ⟨hq, q⟩ | ⟨hq, q⟩
  · obtain ⟨its, r', pl, hz⟩ := I.list hq
    have hlen := r'.length
    refine call_tuple_list pl.isList (fun h' kp => ?_) (by simp only [List.size_toArray] <;> omega)
    have I1 : Inv X pins σ H { s with heap := h' } := I.kept (t' := s.toks) kp
    exact tLaid (s := { s with heap := h' }) (h' := h') (t' := s.toks) I1 (fun _ _ z => z) (Nat.le_refl _) r' hz q
  · obtain ⟨its, r', pl, hz⟩ := I.tuple hq
    exact call_tuple_same pl ⟨.ref p, H, I, rfl, q⟩
def rCatF (K : PySem.W.Frag) : R2 := fun x y H Q => ∃ a b xs ys, x = .ref a ∧ y = .ref b ∧ SqT K H a xs ∧ SqT K H b ys ∧ xs.length + ys.length ≤ sizeLine ∧
  (xs = [] → Q (.ref b) H) ∧ (xs ≠ [] → ys = [] → Q (.ref a) H) ∧ (xs ≠ [] → ys ≠ [] → NewT H Q (xs ++ ys))
theorem op_catF : OpR X (binaryOp .Add) (rCatF X.K) := by
  intro pins s σ H x y v u Q I rx ry h
  obtain ⟨a, b, xs, ys, rfl, rfl, ha, hb, hz, q0, q1, q2⟩ := h
  cases rx
  cases ry
  obtain ⟨its, r1, p1, _⟩ := I.tuple ha
  obtain ⟨its2, r2, p2, _⟩ := I.tuple hb
  by_cases hx : xs = []
  · subst hx
    cases r1
    exact cat_tup0 p1 p2 ⟨.ref b, H, I, rfl, q0 rfl⟩
  · refine HT.cat_tup p1 p2 (fun z => hx (r1.nil_iff.mp z)) (fun z => ⟨.ref a, H, I, rfl, q1 hx (r2.nil_iff.mp z)⟩) (fun z => ?_) (by rw [← r1.length, ← r2.length]; exact hz)
    exact tLaid (h' := s.heap) (t' := s.toks) I (fun _ _ z => z) (Nat.le_refl _) (r1.append r2) (by rw [List.length_append]; exact hz) (q2 hx fun w => z (r2.nil_iff.mpr w))
def rSlF (K : PySem.W.Frag) : V → Option Int → Option Int → Hp → VK → Prop := fun x lo hi H Q => ∃ a xs, x = .ref a ∧ SqT K H a xs ∧
  (HT.sIx xs.length 0 lo = 0 ∧ HT.sIx xs.length xs.length hi = xs.length → Q (.ref a) H) ∧ (¬ (HT.sIx xs.length 0 lo = 0 ∧ HT.sIx xs.length xs.length hi = xs.length) → NewT H Q (cutV xs lo hi))
theorem sl_tupF : SlR X (rSlF X.K) := by
  intro pins s σ H x v vl vu lo hi sl Q I rx hs pl pu h
  obtain ⟨a, xs, rfl, hx, q1, q2⟩ := h
  cases rx
  obtain ⟨its, r, ht, hz⟩ := I.tuple hx
  have hlen : its.toArray.size = xs.length := by rw [List.size_toArray]; exact r.length.symm
  refine ⟨"tuple", _, PyProof.Rows.slot_tuple_getitem.lookup, ht.typeIs, ?_⟩
  by_cases hw : HT.sIx xs.length 0 lo = 0 ∧ HT.sIx xs.length xs.length hi = xs.length
  · exact getItem_tuple_whole ht hs pl pu (by rw [hlen]; exact hw) ⟨.ref a, H, I, rfl, q1 hw⟩
  · refine HT.getItem_tuple_cut ht hs pl pu (by rw [hlen]; exact hw) ?_ (by rw [hlen]; exact hz)
    rw [hlen]
    exact tLaid (h' := s.heap) (t' := s.toks) I (fun _ _ z => z) (Nat.le_refl _) ((r.drop (HT.sIx xs.length 0 lo)).take (HT.sIx xs.length xs.length hi - HT.sIx xs.length 0 lo)) (Nat.le_trans (cutV_length xs lo hi) hz) (q2 hw)
theorem call_divmodF : CallR X (.builtin "divmod") (fun xs H Q => ∃ i j, xs = [.int i, .int j] ∧ CDiv i j ∧ NewT H Q [.int (i / j), .int (i % j)]) := by
  intro pins s σ H xs us Q I r h
  obtain ⟨i, j, rfl, ⟨h1, h2⟩, q⟩ := h
  obtain ⟨u, w', rfl, ⟨t, rfl⟩, ⟨t', rfl⟩⟩ := vals2 r
  refine divmod_int (by omega) ?_ (.inl (PyProof.noPylong_small (by omega)))
  rw [Int.fdiv_eq_ediv_of_nonneg i (by omega), Int.fmod_eq_emod_of_nonneg i (by omega)]
  exact tLaid (h' := s.heap) I (fun _ _ z => z) (Nat.le_refl _) (show Vals [V.int (i / j), V.int (i % j)] [.int (i / j) s.toks, .int (i % j) (s.toks + 1)] from .cons ⟨_, rfl⟩ (.cons ⟨_, rfl⟩ .nil)) (by simp only [List.length_cons, List.length_nil]; rw [sizeLine_eq]; decide) q

/-! ### slices with a step -/
def listIx (lo hi : Option Int) (st : Int) (n : Nat) : List Nat := sliceRange (sliceBounds lo hi (some st) n).1 (sliceBounds lo hi (some st) n).2.1 (sliceBounds lo hi (some st) n).2.2
def tupIx (lo hi : Option Int) (st : Int) (n : Nat) : List Nat := (List.range (Builtin.Slice.slicePlaces (Builtin.Slice.sliceAdjust lo hi st n).1 (Builtin.Slice.sliceAdjust lo hi st n).2 st)).map fun (k : Nat) => ((Builtin.Slice.sliceAdjust lo hi st n).1 + (k : Int) * st).toNat
def pickL {α : Type} (ix : List Nat) (xs : List α) : List α := ix.filterMap fun i => xs[i]?
theorem pickL_vals {xs : List V} {its : List Value} (r : Vals xs its) : ∀ ix : List Nat, Vals (pickL ix xs) (pickL ix its)
  | [] => .nil
  | i :: ix => by
    unfold pickL
    rw [List.filterMap_cons, List.filterMap_cons]
    cases e : xs[i]? with
    | none =>
      rw [r.none_of e]
      exact pickL_vals r ix
    | some x =>
      obtain ⟨u, e2, ru⟩ := r.get e
      rw [e2]
      exact .cons ru (pickL_vals r ix)
/-- x[a:b:c] by values -/
abbrev RSt := V → Option Int → Option Int → Int → Hp → VK → Prop
def rStL (K : PySem.W.Frag) : RSt := fun x lo hi st H Q => ∃ a xs, x = .ref a ∧ SqL K H a xs ∧ st ≠ 0 ∧ ∀ p, H p = none → Q (.ref p) (upd H p (.lst (pickL (listIx lo hi st xs.length) xs)))
def rStT (K : PySem.W.Frag) : RSt := fun x lo hi st H Q => ∃ a xs, x = .ref a ∧ SqT K H a xs ∧ st ≠ 0 ∧ st ≠ 1 ∧ (pickL (tupIx lo hi st xs.length) xs).length ≤ sizeLine ∧ NewT H Q (pickL (tupIx lo hi st xs.length) xs)
theorem slicePart_st {prog : Program} {w : World} {A : Around} {E : Value → Shared → Prop} {s : Shared} {sl : Addr} {vl vu vs : Value} {lo hi : Option Int} {st : Int} {n : Nat} {Q : Int × Int × Nat → Shared → Prop} (hs : s.heap.IsSliceOf sl vl vu vs) (pl : IsPart vl lo) (pu : IsPart vu hi) (ps : IsPart vs (some st)) (h0 : st ≠ 0)
    (h : Q ((Builtin.Slice.sliceAdjust lo hi st n).1, st, Builtin.Slice.slicePlaces (Builtin.Slice.sliceAdjust lo hi st n).1 (Builtin.Slice.sliceAdjust lo hi st n).2 st) s) : wpAny (model prog w) A (Builtin.Slice.sliceApplied (.ref sl) (pure (n : Int))) Q E s := by
  obtain ⟨os, hos, hcs, hds⟩ := id hs
  unfold Builtin.Slice.sliceApplied Builtin.Slice.sliceFields
  refine wpAny_bind (wpAny_bind (wpAny_field hos hds (x := vl) rfl (wpAny_bind (wpAny_field hos hds (x := vu) rfl (wpAny_bind (wpAny_field hos hds (x := vs) rfl (wpAny_pure ?_)))))))
  refine wpAny_bind (HT.slicePart_ ps ?_)
  show wpAny _ _ (if (st == 0) = true then _ else _) _ _ s
  rw [if_neg (by simpa using h0)]
  exact wpAny_bind (HT.slicePart_ pl (wpAny_bind (HT.slicePart_ pu (wpAny_bind (wpAny_pure (wpAny_pure h))))))
theorem getItem_tuple_st {prog : Program} {w : World} {A : Around} {E : Value → Shared → Prop} {s : Shared} {t sl : Addr} {items : Array Value} {vl vu vs : Value} {lo hi : Option Int} {st : Int} {Q : Value → Shared → Prop} (ht : IsTup s.heap t items) (hs : s.heap.IsSliceOf sl vl vu vs) (pl : IsPart vl lo) (pu : IsPart vu hi) (ps : IsPart vs (some st)) (h0 : st ≠ 0) (h1 : st ≠ 1)
    (h : Q (.ref s.heap.objs.size) { s with heap := s.heap.push (tObj (pickL (tupIx lo hi st items.size) items.toList)) })
    (hz : (pickL (tupIx lo hi st items.size) items.toList).length ≤ sizeLine) : wpAny (model prog w) A (getItem (.ref t) (.ref sl)) Q E s := by
  obtain ⟨os, hos, hcs, hds⟩ := id hs
  have hTs : s.TypeIs (.ref sl) "slice" := ⟨os, hos, hcs⟩
  unfold getItem
  try with_reducible refine wpAny_holding ?_
  first | refine wpAny_bind (wpAny_pure ?_) | skip
  refine wpAny_bind (wpAny_sequenceKey ht.typeIs (by decide) ?_)
  refine wpAny_bind (wpAny_callSpecial?_slot (name := Str.ofString "__getitem__") ht.typeIs PyProof.Rows.slot_tuple_getitem
    (wpAny_call_entry PyProof.Rows.slot_tuple_getitem ht.typeIs entry_tuple_getitem ?_ (args_tuple_getitem _ _)))
  show wpAny _ _ (Builtin.Tuple.tupleItemsOf (.ref t) >>= _) _ _ s
  refine wpAny_bind (tupleItemsOf_ ht ?_)
  refine wpAny_bind (wpAny_typeOf hTs ?_)
  rw [if_pos (by decide)]
  refine wpAny_bind (slicePart_st hs pl pu ps h0 ?_)
  have hno : ¬ (((Builtin.Slice.sliceAdjust lo hi st (items.size : Int)).1 == 0 && st == 1 && Builtin.Slice.slicePlaces (Builtin.Slice.sliceAdjust lo hi st (items.size : Int)).1 (Builtin.Slice.sliceAdjust lo hi st (items.size : Int)).2 st == items.size) = true) := by
    intro q
    rw [Bool.and_eq_true, Bool.and_eq_true] at q
    exact h1 (by simpa using q.1.2)
  show wpAny _ _ (if ((Builtin.Slice.sliceAdjust lo hi st (items.size : Int)).1 == 0 && st == 1 && Builtin.Slice.slicePlaces (Builtin.Slice.sliceAdjust lo hi st (items.size : Int)).1 (Builtin.Slice.sliceAdjust lo hi st (items.size : Int)).2 st == items.size) = true then _ else _) _ _ s
  rw [if_neg hno]
  have e : ((List.range (Builtin.Slice.slicePlaces (Builtin.Slice.sliceAdjust lo hi st (items.size : Int)).1 (Builtin.Slice.sliceAdjust lo hi st (items.size : Int)).2 st)).filterMap fun (k : Nat) => items[((Builtin.Slice.sliceAdjust lo hi st (items.size : Int)).1 + (k : Int) * st).toNat]?).toArray = (pickL (tupIx lo hi st items.size) items.toList).toArray := by
    unfold pickL tupIx
    rw [List.filterMap_map]
    congr 2
    funext k
    simp
  rw [e]
  have htake : sizeOk (.seq (pickL (tupIx lo hi st items.size) items.toList).toArray) := by
    show (pickL (tupIx lo hi st items.size) items.toList).toArray.size ≤ sizeLine
    rw [List.size_toArray]; exact hz
  first
    | exact wpAny_bind (m := Builtin.Tuple.tupleExact _) (wpAny_newObj_type (wpAny_pure ⟨_, rfl, wpAny_pure h⟩) htake)
    | exact wpAny_bind (m := Builtin.Tuple.tupleExact _) (wpAny_newObj_type (wpAny_bind (wpAny_pure (wpAny_pure ⟨_, rfl, wpAny_pure h⟩))) htake)
    | exact wpAny_bind (wpAny_bind (m := Builtin.Tuple.tupleExact _) (wpAny_newObj_type (wpAny_pure (wpAny_pure ⟨_, rfl, wpAny_pure h⟩)) htake))
    | exact wpAny_bind (wpAny_bind (m := Builtin.Tuple.tupleExact _) (wpAny_newObj_type (wpAny_pure ⟨_, rfl, wpAny_pure h⟩) htake))
def tSt (r : RSt) (te : TE) (tl th ts : TO) : TE := fun σ H Q => te σ H fun x H1 => tl σ H1 fun l H2 => th σ H2 fun u H3 => ts σ H3 fun o H4 => ∃ st, o = some st ∧ r x l u st H4 Q
theorem pe_slSt {e : Expr} {lo hi st : Option Expr} {te : TE} {tl th ts : TO} {p3 pos : Pos} (he : PE X e te) (hl : PO X lo tl) (hu : PO X hi th) (hst : PO X st ts)
    (hn : ∀ (b : Bool) (o i : Value), st.isSome = true → subscripted (.Slice lo hi st p3) b o i = (match b with | true => runValue (.builtin "lifetime.subscript" ⟨[o, i], []⟩) | false => operate [o, i] (getItem o i))) (hs : st.isSome = true) :
    PE X (.Subscript e (.Slice lo hi st p3) pos) (tSt (fun x l u st H Q => rStL X.K x l u st H Q ∨ rStT X.K x l u st H Q) te tl th ts) := by
  refine ⟨fun pins s σ H Q I h => ?_⟩
  refine Subscript_ (thn (he.run pins s σ H _ I h) fun v s1 ⟨x, H1, I1, r1, q1⟩ => ?_)
  refine wpAny_Slice (thn (hl.run pins s1 σ H1 _ I1 q1) fun vl s2 ⟨l, H2, I2, pl, q2⟩ => ?_)
  refine thn (hu.run pins s2 σ H2 _ I2 q2) fun vu s3 ⟨u, H3, I3, pu, q3⟩ => ?_
  refine thn (hst.run pins s3 σ H3 _ I3 q3) fun vs s4 ⟨o, H4, I4, ps, st', eo, q4⟩ => ?_
  subst eo
  have I5 : Inv X pins σ H4 { s4 with heap := s4.heap.push { cls := .type "slice", data := .fields #[vl, vu, vs] } } := I4.kept (t' := s4.toks) fun b ob q => Heap.get?_push_of_some _ q
  rcases q4 with q4 | q4
  · obtain ⟨a, xs, ex, hx, h0, q⟩ := q4
    subst ex
    cases r1
    obtain ⟨its, r, ht, hz⟩ := I5.list hx
    have hlen := r.length
    show wpAny (model X.prog X.w) X.A (subscriptTail e (.Slice lo hi st p3) (.ref a) (.ref s4.heap.objs.size)) (EP X pins σ Q) X.xe { s4 with heap := s4.heap.push { cls := .type "slice", data := .fields #[vl, vu, vs] } }
    refine tail_any (ops := [.ref a, .ref s4.heap.objs.size]) ht.isList.typeIs (PySem.slot_list_getitem.lookup) ?_ (hn false _ _ hs)
    refine wpAny_getItem_list_slice ht.isList (Heap.IsSliceOf.new _ vl vu vs) pl pu ps (by simpa using h0) ?_ (by rw [List.size_toArray]; omega)
    have e2 : slicePick its.toArray l u (some st') = (pickL (listIx l u st' xs.length) its).toArray := by
      unfold slicePick pickL listIx
      rw [List.size_toArray, hlen]
      congr 2
      funext i
      simp
    rw [e2]
    have hz2 : (pickL (listIx l u st' xs.length) its).length ≤ sizeLine := by
      have := slicePick_size_le its.toArray l u (some st')
      rw [e2, List.size_toArray, List.size_toArray] at this
      omega
    refine ⟨.ref _, _, I5.laid (t' := s4.toks) (o := .lst (pickL (listIx l u st' xs.length) xs)) (fun b ob q => Heap.get?_push_of_some _ q) (Nat.le_refl _) ?_, rfl, q _ (I5.hok.fresh (Nat.le_refl _))⟩
    have rp := pickL_vals r (listIx l u st' xs.length)
    exact ⟨by rw [rp.length]; exact hz2, _, 0, rp, Heap.get?_push_size _ rfl⟩
  · obtain ⟨a, xs, ex, hx, h0, h1, hz2, q⟩ := q4
    subst ex
    cases r1
    obtain ⟨its, r, ht, hz⟩ := I5.tuple hx
    have hlen := r.length
    show wpAny (model X.prog X.w) X.A (subscriptTail e (.Slice lo hi st p3) (.ref a) (.ref s4.heap.objs.size)) (EP X pins σ Q) X.xe { s4 with heap := s4.heap.push { cls := .type "slice", data := .fields #[vl, vu, vs] } }
    refine tail_any (ops := [.ref a, .ref s4.heap.objs.size]) ht.typeIs (PyProof.Rows.slot_tuple_getitem.lookup) ?_ (hn false _ _ hs)
    have e3 : its.toArray.size = xs.length := by rw [List.size_toArray, hlen]
    have rp := pickL_vals r (tupIx l u st' xs.length)
    refine getItem_tuple_st ht (Heap.IsSliceOf.new _ vl vu vs) pl pu ps h0 h1 ?_ (by rw [e3]; show (pickL _ its).length ≤ _; rw [← rp.length]; exact hz2)
    rw [e3]
    exact tLaid (t' := s4.toks) I5 (fun _ _ z => z) (Nat.le_refl _) rp hz2 q
end
end G
end

section
set_option Elab.async false
set_option linter.all false
set_option maxRecDepth 100000
set_option maxHeartbeats 4000000
namespace G
open PySem PySem.Spec PyProof.Rows
section
variable {prog : Program} {w : World} {A : Around} {E : Value → Shared → Prop} {s : Shared}
theorem collect_tuple {l : Addr} {vs : List Value} {Q : List Value → Shared → Prop} (hl : IsTup s.heap l vs.toArray)
    (h : Q vs { s with heap := (s.heap.push (seqObj "list" #[] 0)).update s.heap.objs.size (Obj.mapSeq (· ++ vs.toArray)) }) (hsz : vs.length ≤ sizeLine) :
    wpAny (model prog w) A (collect (.ref l)) Q E s := by
  obtain ⟨o, ho, hc, n, hd⟩ := id hl
  unfold collect
  refine wpAny_bind (wpAny_runValue (codeAny_builtin entry_proto_collect' ?_))
  show wpAny _ _ (do again (.builtin "list.__iadd__" ⟨[← newList [], .ref l], []⟩)) _ _ s
  refine wpAny_bind (wpAny_newList (wpAny_pure ⟨Code.quiet_builtin _ (by decide +kernel), codeAny_builtin entry_list_iadd' ?_⟩))
  show wpAny _ _ (Builtin.List.listExtendWith (.ref s.heap.objs.size) (.ref l) (.ref s.heap.objs.size)) _ _ { s with heap := s.heap.push (seqObj "list" #[] 0) }
  unfold Builtin.List.listExtendWith
  have ho' : (s.heap.push (seqObj "list" #[] 0)).get? l = some o := Heap.get?_push_of_some _ ho
  refine wpAny_bind (wpAny_typeOf (T := "tuple") ⟨o, ho', hc⟩ ?_)
  have ht : (Value.type "tuple" == Value.type "tuple") = true := by rfl
  rw [if_pos (by rw [ht]; simp)]
  refine wpAny_bind (listItems_at ho' hd ?_)
  refine wpAny_bind (listItems_at (xs := #[]) (n := 0) (Heap.get?_push_size _ rfl) rfl ?_)
  rw [if_neg (by simp)]
  refine wpAny_bind (listUpdate_at (xs := #[]) (n := 0) (Heap.get?_push_size _ rfl) rfl ?_ (Nat.zero_le _) (by show (#[] ++ vs.toArray).size ≤ sizeLine + 1; simp only [Array.size_append, List.size_toArray, List.length_nil]; omega))
  refine wpAny_pure ?_
  show wpAny (model prog w) A (do
      let o ← load s.heap.objs.size
      match o.data with
      | .seq xs _ => pure xs.toList
      | _ => unsupported "internal:collect") Q E { s with heap := (s.heap.push (seqObj "list" #[] 0)).update s.heap.objs.size (Obj.mapSeq (· ++ vs.toArray)) }
  refine wpAny_bind (wpAny_load (get?_update_seq (Heap.get?_push_size _ rfl) _) ?_)
  show wpAny _ _ (pure ((#[] : Array Value) ++ vs.toArray).toList) Q E _
  rw [show ((#[] : Array Value) ++ vs.toArray).toList = vs by simp]
  exact wpAny_pure h
open SrtO Srt in
theorem sorted_ordT {l : Addr} {vs : List Value} {ltv : Value → Value → Bool} {Q : Value → Shared → Prop} (O : Swo ltv) (hl : IsTup s.heap l vs.toArray) (hz : vs.length ≤ sizeLine)
    (hS : 2 ≤ vs.length → ∀ (h₁ : Heap) (a : Addr), h₁.get? a = some (seqObj "list" vs.toArray 0) → (∀ b o, s.heap.get? b = some o → b ≠ a ∧ h₁.get? b = some o) → SortableO prog w A.in1.in1 { s with heap := h₁ } a vs ltv)
    (h : ∀ out : List Value, Srtd ltv out → Stb ltv out vs → Q (.ref (s.heap.objs.size + 1)) { s with heap := sortedAll s.heap vs out.toArray }) :
    wpAny (model prog w) A (call (.builtin "sorted") [.ref l]) Q E s := by
  refine Calls.call_function_entry kind_sorted plain_sorted entry_sorted (args_sorted1 _) ?_
  unfold Builtin.«sorted»
  refine wpAny_bind (m := checkCount "sorted" 1 1 _) (wpAny_pure ?_)
  refine wpAny_bind (collect_tuple hl ?_ hz)
  refine wpAny_bind (wpAny_newList ?_ hz)
  have hsz : ((s.heap.push (seqObj "list" #[] 0)).update s.heap.objs.size (Obj.mapSeq (· ++ vs.toArray))).objs.size = s.heap.objs.size + 1 := by
    rw [Heap.size_update, size_push']
  have hoL : (((s.heap.push (seqObj "list" #[] 0)).update s.heap.objs.size (Obj.mapSeq (· ++ vs.toArray))).push (seqObj "list" vs.toArray 0)).get? (s.heap.objs.size + 1) = some (seqObj "list" vs.toArray 0) := by
    rw [← hsz]; exact Heap.get?_push_size _ rfl
  have keep : ∀ b o, s.heap.get? b = some o → b ≠ s.heap.objs.size + 1 ∧ (((s.heap.push (seqObj "list" #[] 0)).update s.heap.objs.size (Obj.mapSeq (· ++ vs.toArray))).push (seqObj "list" vs.toArray 0)).get? b = some o := fun b o q => by
    have hlt : b < s.heap.objs.size := Heap.lt_size q
    refine ⟨Nat.ne_of_lt (Nat.lt_succ_of_lt hlt), Heap.get?_push_of_some _ ?_⟩
    rw [Heap.get?_update_ne _ _ _ _ (Nat.ne_of_lt hlt)]
    exact Heap.get?_push_of_some _ q
  show wpAny _ _ _ _ _ { s with heap := ((s.heap.push (seqObj "list" #[] 0)).update s.heap.objs.size (Obj.mapSeq (· ++ vs.toArray))).push (seqObj "list" vs.toArray 0) }
  rw [hsz]
  refine wpAny_bind (wpAny_holding (wpAny_call_entry slot_list_sort ⟨_, hoL, rfl⟩ entry_list_sort (list_sort_ord O hoL hz (fun h2 => hS h2 _ _ hoL keep) fun out hs hb => ⟨_, rfl, ?_⟩) (args_list_sort _)))
  exact wpAny_pure ⟨_, rfl, h out hs hb⟩
end
end G

namespace G
open PySem PySem.Spec PyProof.Rows L2
section
variable {X : Cx}
/-- sorted(t), ints -/
theorem cr_sortedIT : CallR X (.builtin "sorted") (fun vs H Q => ∃ (a : Addr) (ns : List Int), vs = [V.ref a] ∧ SqT X.K H a (ns.map V.int) ∧
    ∀ (ns' : List Int) (p : Addr), ns'.Perm ns → ns'.Pairwise (· ≤ ·) → H p = none → Q (.ref p) (upd H p (.lst (ns'.map V.int)))) := by
  intro pins s σ H vs us Q I r h
  obtain ⟨a, ns, rfl, hs, q⟩ := h
  obtain ⟨its, rv, hl, hz⟩ := I.tuple hs
  rw [Vals.ref1 r]
  have hi := rv.ints
  refine sorted_ordT SrtO.swo_int hl (by rw [← rv.length]; exact hz) (fun h2 h₁ a' _ _ => SrtO.ints_sortable hi h2) fun out h1 h2 => ?_
  obtain ⟨k1, k2, k3⟩ := SrtO.ints_out hi h1 h2
  obtain ⟨ep, he'⟩ := PyProof.Rows.sortedAll_at s.heap its out.toArray
  have hlen : ((out.map SrtO.iv).map V.int).length ≤ sizeLine := by
    rw [List.length_map, k2.length_eq]
    rw [List.length_map] at hz
    exact hz
  exact ⟨.ref _, upd H (s.heap.objs.size + 1) (.lst ((out.map SrtO.iv).map V.int)), I.laid (t' := s.toks) (fun _ _ => PyProof.Rows.sortedAll_old) (Nat.le_succ _) ⟨hlen, out, ep, vals_of_ints k1, he'⟩, rfl, q _ _ k2 k3 (I.hok.fresh (Nat.le_succ _))⟩
/-- a tuple whose methods may be called -/
def TupS (K : PySem.W.Frag) (H : Hp) (a : Addr) (xs : List V) : Prop :=
  (∃ o, H a = some (.frz o (.tup xs)) ∧ o.dict = none) ∨
    ∃ (o : Obj) (its : Array Value) (n : Nat), K.lookup a = some o ∧ o.cls = .type "tuple" ∧ o.dict = none ∧ o.data = .seq its n ∧ its.size ≤ sizeLine ∧ Vals xs its.toList
theorem TupS.sq {K : PySem.W.Frag} {H : Hp} {a : Addr} {xs : List V} (h : TupS K H a xs) : SqT K H a xs := by
  rcases h with ⟨o, h, _⟩ | ⟨o, its, n, h1, h2, _, h3, h4, h5⟩
  · exact .inl (.inr ⟨o, h⟩)
  · exact .inr ⟨o, its, n, h1, h2, h3, h4, h5⟩
theorem TupS.is {pins : List (Addr × Obj)} {σ : L2.St} {H : Hp} {s : Shared} {a : Addr} {xs : List V} (I : Inv X pins σ H s) (h : TupS X.K H a xs) : s.TypeIs (.ref a) "tuple" ∧ ∃ ob, s.heap.get? a = some ob ∧ ob.dict = none := by
  rcases h with ⟨o, h, hd⟩ | ⟨o, its, n, h1, h2, hd, _⟩
  · obtain ⟨e, _, its, r, o', e', hc, _⟩ := I.hok a _ h
    rw [e] at e'; cases e'
    exact ⟨⟨o, e, hc⟩, o, e, hd⟩
  · exact ⟨⟨o, I.kIn a o h1, h2⟩, o, I.kIn a o h1, hd⟩
def tBMT (K : PySem.W.Frag) (r : V → List V → Hp → VK → Prop) (to : TE) (t : TA) : TE := fun σ H Q => to σ H fun x H1 => (∃ a xs, x = .ref a ∧ TupS K H1 a xs) ∧ t σ H1 fun xs H2 => r x xs H2 Q
/-- o.m(e, ..), o a tuple -/
theorem pe_bmT {o e : Expr} {es : List Expr} {to : TE} {t : TA} {name : Str} {apos cpos : Pos} {id : String} {r : V → List V → Hp → VK → Prop} (pa : PlainAttrs "tuple") (slot : Slot "tuple" name id) (hty : typeOf (.builtin id) = pure (.type "method_descriptor")) (hm : MtR X id r) (ho : PE X o to) (ha : PA X (e :: es) t)
    (hbase : attributeBase o name X.env (eval o X.env) = eval o X.env)
    (hfew : ((backTo cpos (starEach (e :: es) X.env)).all (fun x => !x.1) && (backToKw cpos (keywordEach [] X.env)).all (fun x => x.1.isSome)
      && decide ((e :: es).length + ([] : List Keyword).length + (if ([] : List Keyword).isEmpty then 0 else 1) < 30)) = true)
    (hline : (apos.endLine == cpos.line) = true) (hs : starEach (e :: es) X.env = (false, eval e X.env) :: starEach es X.env) (hplain : (backTo cpos (starEach es X.env)).any (·.1) = false) :
    PE X (.Call (.Attribute o name apos) (e :: es) [] cpos) (tBMT X.K r to t) := by
  refine ⟨fun pins s σ H Q I h => ?_⟩
  refine wpAny_Call_method_late hbase hfew hline rfl (thn (ho.run pins s σ H _ I h) fun v s1 ⟨x, H1, I1, r1, ty, q1⟩ => ?_)
  obtain ⟨a, xs, ex, ts⟩ := ty
  subst ex
  cases r1
  obtain ⟨h1, h2⟩ := ts.is I1
  refine ⟨"tuple", id, pa, slot, hty, h1, fun b e => by cases e; exact h2, ?_⟩
  have hA := ha.run cpos pins s1 σ H1 _ I1 q1
  rw [hs] at hA ⊢
  refine Calls.callWith_builtin (by show (false || (backTo cpos (starEach es X.env)).any (·.1)) = false; rw [hplain] <;> rfl) (Calls.evalArgs_plain ?_)
  exact thn hA fun us s2 ⟨vs, H2, I2, r2, q2⟩ => hm pins s2 σ H2 (.ref a) vs (.ref a) us Q I2 rfl r2 q2
/-- t.index(x): data -/
def rIndexT (K : PySem.W.Frag) : V → List V → Hp → VK → Prop := fun x xs H Q => ∃ (a : Addr) (y : V) (d : PyData) (ds : List PyData) (j : Nat) (z : PyData), x = V.ref a ∧ xs = [y] ∧ Dp K H (V.ref a) (.tuple ds) ∧ Dp K H y d ∧
  SeqAt.shaped (.list ds) = true ∧ SeqAt.shaped d = true ∧ ds[j]? = some z ∧ PyData.eqv z d = true ∧ (∀ (m : Nat) (z' : PyData), m < j → ds[m]? = some z' → PyData.eqv z' d = false) ∧ Q (.int (j : Nat)) H
theorem mt_indexT (hu : X.A.units + 65 < cLine) : MtR X "tuple.index" (rIndexT X.K) := by
  intro pins s σ H x xs v us Q I rx rxs h
  obtain ⟨a, y, d, ds, j, z, rfl, rfl, hl, hy, sl, sd, hz, hzj, hno, q⟩ := h
  cases rx
  cases rxs with
  | cons ry rt =>
    rename_i uy ut
    cases rt
    obtain ⟨bs, r1⟩ := Dp.reads I d y uy hy ry
    have hxs : PyData.canLayAll0 ds = true := SeqAt.canLay_of_shaped sl
    have hroom : X.A.units + 1 + min (PyData.depthAll ds) d.depth < cLine := room_in_shaped sd hu
    cases hl with
    | tup hs ha =>
      obtain ⟨its, rv, ⟨⟨cls, dd, data, sls⟩, ho, hc, n, hdt⟩, hlen⟩ := I.tuple hs
      simp only at hc hdt
      subst hc hdt
      obtain ⟨as, h4⟩ := Dp.readsAll I ds _ its ha rv
      have hn : its.length = ds.length := SeqAt.ReadsAll.length ds its as h4
      have hmap : its.map (SeqAt.readOf s.heap) = ds := SeqAt.readsAll_map ds its as hxs h4
      have hvl := rv.length
      have hsl := sizeLine_eq
      obtain ⟨hjd, _⟩ := List.getElem?_eq_some_iff.mp hz
      have hjl : j < its.length := by omega
      have hj : j < its.toArray.size := by simpa using hjl
      have at_ : ∀ (m : Nat) (hm : m < its.toArray.size) (z' : PyData), ds[m]? = some z' → SeqAt.readOf s.heap its.toArray[m] = z' := by
        intro m hm z' hz'
        have hml : m < its.length := by simpa using hm
        rw [← hmap, List.getElem?_map, List.getElem?_eq_getElem hml] at hz'
        have e1 : SeqAt.readOf s.heap its[m] = z' := Option.some.inj (show some (SeqAt.readOf s.heap its[m]) = some z' from hz')
        simpa using e1
      refine call_meets PySem.F.slot_tuple_index ⟨_, ho, rfl⟩ PySem.F.entry_tuple_index (PySem.F.args_tuple_index_2 _ _)
        (TI.tuple_indexAt a its.toArray n dd sls uy (fun u => PyData.eqv (SeqAt.readOf s.heap u) d) j hj ?_ ?_) ⟨ho, SeqAt.items_eqAt (vs := its.toArray) (show ReadsAll s.heap its.toArray.toList ds as from h4) r1 hxs (SeqAt.canLay_of_shaped sd) hroom, ?_⟩
      · show PyData.eqv (SeqAt.readOf s.heap its.toArray[j]) d = true
        rw [at_ j hj z hz]
        exact hzj
      · intro m hm hmj
        have hmd : m < ds.length := by omega
        have hz' : ds[m]? = some ds[m] := List.getElem?_eq_getElem hmd
        show PyData.eqv (SeqAt.readOf s.heap its.toArray[m]) d = false
        rw [at_ m hm _ hz']
        exact hno m _ hmj hz'
      · exact ⟨.int (j : Nat), H, I.tok _, ⟨_, rfl⟩, q⟩
end
end G
end

section
set_option Elab.async false
set_option linter.all false
set_option maxRecDepth 100000
/-! A reflective layer: values D without addresses, an evaluator by combinators, each with its proof over HandS's judgements. -/
namespace G
open PySem PySem.Spec PyProof.Rows L2

/-! ### values -/
inductive D where
  | non | bl (b : Bool) | int (i : Int) | str (s : Str)
  /-- a tuple -/
  | tup (xs : List D)
  /-- a list that is not written any more -/
  | lst (xs : List D)
  /-- a list that can't be written (the script) -/
  | rol (xs : List D)
  /-- a dict that is not written any more -/
  | dct (ks : List Key) (vs : List D)
  /-- a tuple whose methods are not called -/
  | tpk (xs : List D)
  /-- a list, a dict that may be written: its cell -/
  | ref (n : Nat)
  deriving Inhabited
inductive Cell where
  | lst (xs : List D)
  | dK (ks : List Key) (vs : List D)
  | dT (ks : List (List Key)) (vs : List D)
  deriving Inhabited
abbrev Store := List Cell
inductive R (α : Type) where
  | ok (a : α) (S : Store)
  | exc (c : Str) (fs : List D) (S : Store)
  | bad
abbrev M (α : Type) := Store → R α
@[inline] def M.bind {α β : Type} (m : M α) (f : α → M β) : M β := fun S => match m S with
  | .ok a S' => f a S'
  | .exc c fs S' => .exc c fs S'
  | .bad => .bad
def M.ok {α : Type} (a : α) : M α := fun S => .ok a S
def M.bad {α : Type} : M α := fun _ => .bad
abbrev Ph := Nat → List D → M D
abbrev Ro := List (Option D)
abbrev Ev := Ph → Ro → M D
@[simp] theorem M.bind_ok {α β : Type} (a : α) (f : α → M β) : M.bind (M.ok a) f = f a := rfl

mutual
/-- no cell is named -/
def D.noRef : D → Bool
  | .ref _ => false
  | .tup xs => D.noRefs xs
  | .lst xs => D.noRefs xs
  | .rol xs => D.noRefs xs
  | .dct _ vs => D.noRefs vs
  | .tpk vs => D.noRefs vs
  | _ => true
def D.noRefs : List D → Bool
  | [] => true
  | d :: r => D.noRef d && D.noRefs r
end
mutual
/-- the cells that are named stand below n -/
def D.bel (n : Nat) : D → Bool
  | .ref m => decide (m < n)
  | .tup xs => D.bels n xs
  | .lst xs => D.bels n xs
  | .rol xs => D.bels n xs
  | .dct _ vs => D.bels n vs
  | .tpk vs => D.bels n vs
  | _ => true
def D.bels (n : Nat) : List D → Bool
  | [] => true
  | d :: r => D.bel n d && D.bels n r
end
def Cell.items : Cell → List D
  | .lst xs => xs
  | .dK _ vs => vs
  | .dT _ vs => vs

/-! ### a value and what it stands for -/
/-- the cells' addresses; lists in the making -/
structure Ix where
  cs : List Addr
  pv : List Addr
def Ix.has (ι : Ix) (a : Addr) : Prop := a ∈ ι.cs ∨ a ∈ ι.pv
instance : Membership Addr Ix := ⟨Ix.has⟩
def Ix.take (ι : Ix) (n : Nat) : Ix := ⟨ι.cs.take n, ι.pv⟩
def Ix.add (ι : Ix) (p : Addr) : Ix := ⟨ι.cs ++ [p], ι.pv⟩
def Ix.priv (ι : Ix) (p : Addr) : Ix := ⟨ι.cs, p :: ι.pv⟩
theorem Ix.mem_cs {ι : Ix} {a : Addr} (h : a ∈ ι.cs) : a ∈ ι := .inl h
theorem Ix.of_take {ι : Ix} {n : Nat} {a : Addr} (h : a ∈ ι.take n) : a ∈ ι := h.elim (fun z => .inl (List.mem_of_mem_take z)) .inr
section
variable (K : PySem.W.Frag)
/-- a list of the written part -/
def KLst (a : Addr) (xs : List V) : Prop := ∃ (o : Obj) (its : Array Value) (n : Nat), K.lookup a = some o ∧ o.cls = .type "list" ∧ o.dict = none ∧ o.data = .seq its n ∧ its.size ≤ sizeLine ∧ Vals xs its.toList
mutual
def RelD (ι : Ix) (H : Hp) : D → V → Prop
  | .non, v => v = .non
  | .bl b, v => v = .bl b
  | .int i, v => v = .int i
  | .str s, v => v = .str s
  | .tup ds, v => ∃ a vs, v = .ref a ∧ TupS K H a vs ∧ vs.length ≤ sizeLine ∧ RelDs ι H ds vs
  | .tpk ds, v => ∃ a vs, v = .ref a ∧ SqT K H a vs ∧ vs.length ≤ sizeLine ∧ RelDs ι H ds vs
  | .lst ds, v => ∃ a vs, v = .ref a ∧ H a = some (.lst vs) ∧ vs.length ≤ sizeLine ∧ a ∉ ι ∧ RelDs ι H ds vs
  | .rol ds, v => ∃ a vs, v = .ref a ∧ ((∃ o, H a = some (.frz o (.lst vs))) ∨ KLst K a vs) ∧ vs.length ≤ sizeLine ∧ RelDs ι H ds vs
  | .dct ks ds, v => ∃ (a : Addr) (kvs : List (Key × V)), v = .ref a ∧ H a = some (.dK kvs) ∧ a ∉ ι ∧ kvs.map (·.1) = ks ∧ RelDs ι H ds (kvs.map (·.2))
  | .ref n, v => ∃ a, v = .ref a ∧ ι.cs[n]? = some a
def RelDs (ι : Ix) (H : Hp) : List D → List V → Prop
  | [], vs => vs = []
  | d :: r, vs => ∃ v vr, vs = v :: vr ∧ RelD ι H d v ∧ RelDs ι H r vr
end
end

/-- what came behind: more cells, all else that stood stands -/
structure Grow (ι : Ix) (H : Hp) (ι' : Ix) (H' : Hp) : Prop where
  pre : ∀ (n : Nat) (a : Addr), ι.cs[n]? = some a → ι'.cs[n]? = some a
  new : ∀ a, a ∈ ι' → a ∈ ι ∨ H a = none
  keep : ∀ a o, a ∉ ι → H a = some o → H' a = some o
  tup : ∀ a xs, H a = some (.tup xs) → H' a = some (.tup xs)
  frz : ∀ a o u, H a = some (.frz o u) → H' a = some (.frz o u)
theorem Grow.refl (ι : Ix) (H : Hp) : Grow ι H ι H := ⟨fun _ _ h => h, fun _ h => .inl h, fun _ _ _ h => h, fun _ _ h => h, fun _ _ _ h => h⟩
theorem Grow.trans {ι ι' ι'' : Ix} {H H' H'' : Hp} (a : Grow ι H ι' H') (b : Grow ι' H' ι'' H'') : Grow ι H ι'' H'' where
  pre := fun n c h => b.pre n c (a.pre n c h)
  new := fun c h => by
    by_cases hc : c ∈ ι
    · exact .inl hc
    · refine .inr ?_
      rcases b.new c h with h | h
      · rcases a.new c h with h | h
        · exact absurd h hc
        · exact h
      · cases q : H c with
        | none => rfl
        | some o => rw [a.keep c o hc q] at h; cases h
  keep := fun c o hc h => b.keep c o (fun hi => by
    rcases a.new c hi with z | z
    · exact hc z
    · rw [h] at z; cases z) (a.keep c o hc h)
  tup := fun c xs h => b.tup c xs (a.tup c xs h)
  frz := fun c o u h => b.frz c o u (a.frz c o u h)
/-- .. and the lists in the making stand -/
structure Ext (ι : Ix) (H : Hp) (ι' : Ix) (H' : Hp) : Prop extends Grow ι H ι' H' where
  pve : ι'.pv = ι.pv
  pvk : ∀ a o, a ∈ ι.pv → H a = some o → H' a = some o
theorem Ext.refl (ι : Ix) (H : Hp) : Ext ι H ι H := ⟨.refl _ _, rfl, fun _ _ _ h => h⟩
theorem Ext.trans {ι ι' ι'' : Ix} {H H' H'' : Hp} (a : Ext ι H ι' H') (b : Ext ι' H' ι'' H'') : Ext ι H ι'' H'' :=
  ⟨a.toGrow.trans b.toGrow, b.pve.trans a.pve, fun c o hc h => b.pvk c o (by rw [a.pve]; exact hc) (a.pvk c o hc h)⟩
section
variable {K : PySem.W.Frag} {ι ι' : Ix} {H H' : Hp}
theorem Grow.sqT (e : Grow ι H ι' H') {a : Addr} {vs : List V} (h : SqT K H a vs) : SqT K H' a vs := by
  rcases h with (h | ⟨o, h⟩) | h
  · exact .inl (.inl (e.tup _ _ h))
  · exact .inl (.inr ⟨o, e.frz _ _ _ h⟩)
  · exact .inr h
theorem Grow.tupS (e : Grow ι H ι' H') {a : Addr} {vs : List V} (h : TupS K H a vs) : TupS K H' a vs := by
  rcases h with ⟨o, h, d⟩ | h
  · exact .inl ⟨o, e.frz _ _ _ h, d⟩
  · exact .inr h
theorem Grow.notin (e : Grow ι H ι' H') {a : Addr} {o : HO} (hn : a ∉ ι) (h : H a = some o) : a ∉ ι' := fun hi => by
  rcases e.new a hi with z | z
  · exact hn z
  · rw [h] at z; cases z
mutual
theorem RelD.monoG (e : Grow ι H ι' H') : ∀ (d : D) {v : V}, RelD K ι H d v → RelD K ι' H' d v
  | .non, v, h => by unfold RelD at h ⊢; exact h
  | .bl _, v, h => by unfold RelD at h ⊢; exact h
  | .int _, v, h => by unfold RelD at h ⊢; exact h
  | .str _, v, h => by unfold RelD at h ⊢; exact h
  | .tup ds, v, h => by
    unfold RelD at h ⊢
    obtain ⟨a, vs, h1, h2, h3, h4⟩ := h
    exact ⟨a, vs, h1, e.tupS h2, h3, RelDs.monoG e ds h4⟩
  | .tpk ds, v, h => by
    unfold RelD at h ⊢
    obtain ⟨a, vs, h1, h2, h3, h4⟩ := h
    exact ⟨a, vs, h1, e.sqT h2, h3, RelDs.monoG e ds h4⟩
  | .lst ds, v, h => by
    unfold RelD at h ⊢
    obtain ⟨a, vs, h1, h2, h3, h4, h5⟩ := h
    exact ⟨a, vs, h1, e.keep _ _ h4 h2, h3, e.notin h4 h2, RelDs.monoG e ds h5⟩
  | .rol ds, v, h => by
    unfold RelD at h ⊢
    obtain ⟨a, vs, h1, h2, h3, h4⟩ := h
    exact ⟨a, vs, h1, h2.imp (fun ⟨o, z⟩ => ⟨o, e.frz _ _ _ z⟩) id, h3, RelDs.monoG e ds h4⟩
  | .dct ks ds, v, h => by
    unfold RelD at h ⊢
    obtain ⟨a, kvs, h1, h2, h3, h4, h5⟩ := h
    exact ⟨a, kvs, h1, e.keep _ _ h3 h2, e.notin h3 h2, h4, RelDs.monoG e ds h5⟩
  | .ref n, v, h => by
    unfold RelD at h ⊢
    obtain ⟨a, h1, h2⟩ := h
    exact ⟨a, h1, e.pre _ _ h2⟩
theorem RelDs.monoG (e : Grow ι H ι' H') : ∀ (ds : List D) {vs : List V}, RelDs K ι H ds vs → RelDs K ι' H' ds vs
  | [], vs, h => by unfold RelDs at h ⊢; exact h
  | d :: r, vs, h => by
    unfold RelDs at h ⊢
    obtain ⟨v, vr, h1, h2, h3⟩ := h
    exact ⟨v, vr, h1, RelD.monoG e d h2, RelDs.monoG e r h3⟩
end
theorem RelD.mono (e : Ext ι H ι' H') (d : D) {v : V} (h : RelD K ι H d v) : RelD K ι' H' d v := h.monoG e.toGrow
theorem RelDs.mono (e : Ext ι H ι' H') (ds : List D) {vs : List V} (h : RelDs K ι H ds vs) : RelDs K ι' H' ds vs := h.monoG e.toGrow
theorem Ext.sqT (e : Ext ι H ι' H') {a : Addr} {vs : List V} (h : SqT K H a vs) : SqT K H' a vs := e.toGrow.sqT h
mutual
theorem D.bel_mono {m n : Nat} (h : m ≤ n) : ∀ d : D, D.bel m d = true → D.bel n d = true
  | .non, _ => rfl
  | .bl _, _ => rfl
  | .int _, _ => rfl
  | .str _, _ => rfl
  | .tup xs, q => D.bels_mono h xs q
  | .tpk xs, q => D.bels_mono h xs q
  | .lst xs, q => D.bels_mono h xs q
  | .rol xs, q => D.bels_mono h xs q
  | .dct _ xs, q => D.bels_mono h xs q
  | .ref k, q => by
    unfold D.bel at q ⊢
    exact decide_eq_true (Nat.lt_of_lt_of_le (of_decide_eq_true q) h)
theorem D.bels_mono {m n : Nat} (h : m ≤ n) : ∀ ds : List D, D.bels m ds = true → D.bels n ds = true
  | [], _ => rfl
  | d :: r, q => by
    unfold D.bels at q ⊢
    obtain ⟨q1, q2⟩ := Bool.and_eq_true_iff.mp q
    rw [D.bel_mono h d q1, D.bels_mono h r q2] <;> rfl
end
mutual
theorem D.bel_of_noRef (n : Nat) : ∀ d : D, D.noRef d = true → D.bel n d = true
  | .non, _ => rfl
  | .bl _, _ => rfl
  | .int _, _ => rfl
  | .str _, _ => rfl
  | .tup xs, q => D.bels_of_noRefs n xs q
  | .tpk xs, q => D.bels_of_noRefs n xs q
  | .lst xs, q => D.bels_of_noRefs n xs q
  | .rol xs, q => D.bels_of_noRefs n xs q
  | .dct _ xs, q => D.bels_of_noRefs n xs q
  | .ref k, q => by unfold D.noRef at q; cases q
theorem D.bels_of_noRefs (n : Nat) : ∀ ds : List D, D.noRefs ds = true → D.bels n ds = true
  | [], _ => rfl
  | d :: r, q => by
    unfold D.noRefs at q
    unfold D.bels
    obtain ⟨q1, q2⟩ := Bool.and_eq_true_iff.mp q
    rw [D.bel_of_noRef n d q1, D.bels_of_noRefs n r q2] <;> rfl
end
theorem getElem?_take_some {α : Type} {l : List α} {m n : Nat} {a : α} (h : n < m) (e : l[n]? = some a) : (l.take m)[n]? = some a := by
  rw [List.getElem?_take_of_lt h]; exact e
mutual
/-- the cells from m on are let go -/
theorem RelD.cut {m : Nat} : ∀ (d : D) {v : V}, D.bel m d = true → RelD K ι H d v → RelD K (ι.take m) H d v
  | .non, v, _, h => by unfold RelD at h ⊢; exact h
  | .bl _, v, _, h => by unfold RelD at h ⊢; exact h
  | .int _, v, _, h => by unfold RelD at h ⊢; exact h
  | .str _, v, _, h => by unfold RelD at h ⊢; exact h
  | .tup ds, v, q, h => by
    unfold RelD at h ⊢
    obtain ⟨a, vs, h1, h2, h3, h4⟩ := h
    exact ⟨a, vs, h1, h2, h3, RelDs.cut ds q h4⟩
  | .tpk ds, v, q, h => by
    unfold RelD at h ⊢
    obtain ⟨a, vs, h1, h2, h3, h4⟩ := h
    exact ⟨a, vs, h1, h2, h3, RelDs.cut ds q h4⟩
  | .lst ds, v, q, h => by
    unfold RelD at h ⊢
    obtain ⟨a, vs, h1, h2, h3, h4, h5⟩ := h
    exact ⟨a, vs, h1, h2, h3, fun z => h4 (Ix.of_take z), RelDs.cut ds q h5⟩
  | .rol ds, v, q, h => by
    unfold RelD at h ⊢
    obtain ⟨a, vs, h1, h2, h3, h4⟩ := h
    exact ⟨a, vs, h1, h2, h3, RelDs.cut ds q h4⟩
  | .dct ks ds, v, q, h => by
    unfold RelD at h ⊢
    obtain ⟨a, kvs, h1, h2, h3, h4, h5⟩ := h
    exact ⟨a, kvs, h1, h2, fun z => h3 (Ix.of_take z), h4, RelDs.cut ds q h5⟩
  | .ref n, v, q, h => by
    unfold RelD at h ⊢
    obtain ⟨a, h1, h2⟩ := h
    unfold D.bel at q
    exact ⟨a, h1, getElem?_take_some (of_decide_eq_true q) h2⟩
theorem RelDs.cut {m : Nat} : ∀ (ds : List D) {vs : List V}, D.bels m ds = true → RelDs K ι H ds vs → RelDs K (ι.take m) H ds vs
  | [], vs, _, h => by unfold RelDs at h ⊢; exact h
  | d :: r, vs, q, h => by
    unfold RelDs at h ⊢
    unfold D.bels at q
    obtain ⟨q1, q2⟩ := Bool.and_eq_true_iff.mp q
    obtain ⟨v, vr, h1, h2, h3⟩ := h
    exact ⟨v, vr, h1, RelD.cut d q1 h2, RelDs.cut r q2 h3⟩
end
/-! lists -/
theorem RelDs.length : ∀ {ds : List D} {vs : List V}, RelDs K ι H ds vs → vs.length = ds.length
  | [], vs, h => by unfold RelDs at h; rw [h] <;> rfl
  | d :: r, vs, h => by
    unfold RelDs at h
    obtain ⟨v, vr, h1, _, h3⟩ := h
    rw [h1, List.length_cons, List.length_cons, RelDs.length h3]
theorem RelDs.get : ∀ {ds : List D} {vs : List V} {i : Nat} {d : D}, RelDs K ι H ds vs → ds[i]? = some d → ∃ v, vs[i]? = some v ∧ RelD K ι H d v
  | [], _, _, _, _, e => by simp at e
  | d :: r, vs, i, x, h, e => by
    unfold RelDs at h
    obtain ⟨v, vr, h1, h2, h3⟩ := h
    subst h1
    cases i with
    | zero => simp at e; subst e; exact ⟨v, rfl, h2⟩
    | succ i =>
      obtain ⟨u, e1, e2⟩ := RelDs.get (i := i) h3 (by simpa using e)
      exact ⟨u, by simpa using e1, e2⟩
theorem RelDs.of_get {ds : List D} : ∀ {vs : List V}, vs.length = ds.length → (∀ (i : Nat) (d : D) (v : V), ds[i]? = some d → vs[i]? = some v → RelD K ι H d v) → RelDs K ι H ds vs := by
  induction ds with
  | nil => intro vs l _; unfold RelDs; exact List.length_eq_zero_iff.mp l
  | cons d r ih =>
    intro vs l h
    cases vs with
    | nil => simp at l
    | cons v vr =>
      unfold RelDs
      exact ⟨v, vr, rfl, h 0 d v rfl rfl, ih (by simpa using l) fun i x y e1 e2 => h (i + 1) x y (by simpa using e1) (by simpa using e2)⟩
theorem RelDs.nil : RelDs K ι H [] [] := by unfold RelDs; rfl
theorem RelDs.cons {d : D} {v : V} {r : List D} {vr : List V} (h : RelD K ι H d v) (t : RelDs K ι H r vr) : RelDs K ι H (d :: r) (v :: vr) := by unfold RelDs; exact ⟨v, vr, rfl, h, t⟩
theorem RelDs.append : ∀ {ds es : List D} {vs us : List V}, RelDs K ι H ds vs → RelDs K ι H es us → RelDs K ι H (ds ++ es) (vs ++ us)
  | [], es, vs, us, h, t => by unfold RelDs at h; subst h; exact t
  | d :: r, es, vs, us, h, t => by
    unfold RelDs at h
    obtain ⟨v, vr, h1, h2, h3⟩ := h
    subst h1
    exact .cons h2 (RelDs.append h3 t)
theorem RelDs.idx {ds es : List D} {vs us : List V} (h : RelDs K ι H ds vs) (l : us.length = es.length) (f : ∀ (i : Nat) (d : D) (v : V), es[i]? = some d → us[i]? = some v → ∃ j : Nat, ds[j]? = some d ∧ vs[j]? = some v) : RelDs K ι H es us :=
  .of_get l fun i d v e1 e2 => by
    obtain ⟨j, a, b⟩ := f i d v e1 e2
    obtain ⟨u, c, r⟩ := h.get a
    rw [b] at c; cases c; exact r
theorem RelDs.take {ds : List D} {vs : List V} (h : RelDs K ι H ds vs) (n : Nat) : RelDs K ι H (ds.take n) (vs.take n) :=
  h.idx (by rw [List.length_take, List.length_take, h.length]) fun i d v e1 e2 => by
    rw [List.getElem?_take] at e1 e2
    split at e1
    · rename_i hi; rw [if_pos hi] at e2; exact ⟨i, e1, e2⟩
    · cases e1
theorem RelDs.drop {ds : List D} {vs : List V} (h : RelDs K ι H ds vs) (n : Nat) : RelDs K ι H (ds.drop n) (vs.drop n) :=
  h.idx (by rw [List.length_drop, List.length_drop, h.length]) fun i d v e1 e2 => by
    rw [List.getElem?_drop] at e1 e2
    exact ⟨_, e1, e2⟩
theorem RelDs.set {ds : List D} {vs : List V} (h : RelDs K ι H ds vs) {d : D} {v : V} (r : RelD K ι H d v) (n : Nat) : RelDs K ι H (ds.set n d) (vs.set n v) :=
  .of_get (by rw [List.length_set, List.length_set, h.length]) fun i x y e1 e2 => by
    by_cases hi : n = i
    · subst hi
      by_cases hl : n < ds.length
      · rw [List.getElem?_set_self hl] at e1
        rw [List.getElem?_set_self (by rw [h.length]; exact hl)] at e2
        cases e1; cases e2; exact r
      · rw [List.getElem?_eq_none (by simpa using hl)] at e1; cases e1
    · rw [List.getElem?_set_ne hi] at e1 e2
      obtain ⟨u, c, q⟩ := h.get e1
      rw [e2] at c; cases c; exact q
theorem RelDs.reverse {ds : List D} {vs : List V} (h : RelDs K ι H ds vs) : RelDs K ι H ds.reverse vs.reverse :=
  h.idx (by rw [List.length_reverse, List.length_reverse, h.length]) fun i d v e1 e2 => by
    have hi : i < ds.length := by
      have := (List.getElem?_eq_some_iff.mp e1).1
      simpa using this
    rw [List.getElem?_reverse hi] at e1
    rw [List.getElem?_reverse (by rw [h.length]; exact hi), h.length] at e2
    exact ⟨_, e1, e2⟩
theorem RelDs.eraseIdx {ds : List D} {vs : List V} (h : RelDs K ι H ds vs) (n : Nat) : RelDs K ι H (ds.eraseIdx n) (vs.eraseIdx n) := by
  rw [List.eraseIdx_eq_take_drop_succ, List.eraseIdx_eq_take_drop_succ]
  exact (h.take n).append (h.drop (n + 1))
theorem RelDs.map {α : Type} {f : α → D} {g : α → V} (h : ∀ a, RelD K ι H (f a) (g a)) : ∀ l : List α, RelDs K ι H (l.map f) (l.map g)
  | [] => .nil
  | a :: r => .cons (h a) (RelDs.map h r)
end

/-! ### the store -/
section
variable (K : PySem.W.Frag)
def CellR (ι : Ix) (H : Hp) (a : Addr) : Cell → Prop
  | .lst ds => ∃ vs, H a = some (.lst vs) ∧ vs.length ≤ sizeLine ∧ RelDs K ι H ds vs
  | .dK ks ds => ∃ kvs : List (Key × V), H a = some (.dK kvs) ∧ kvs.map (·.1) = ks ∧ RelDs K ι H ds (kvs.map (·.2))
  | .dT ks ds => ∃ kvs : List (List Key × V), H a = some (.dT kvs) ∧ kvs.map (·.1) = ks ∧ RelDs K ι H ds (kvs.map (·.2))
structure World (ι : Ix) (H : Hp) (S : Store) : Prop where
  len : ι.cs.length = S.length
  nd : ι.cs.Nodup
  prv : ∀ a ∈ ι.pv, ∃ xs, H a = some (.lst xs)
  apt : ∀ a ∈ ι.pv, a ∉ ι.cs
  bel : ∀ (n : Nat) (c : Cell), S[n]? = some c → D.bels n c.items = true
  cell : ∀ (n : Nat) (c : Cell), S[n]? = some c → ∃ a, ι.cs[n]? = some a ∧ CellR K ι H a c
def EnvOk (ι : Ix) (H : Hp) (ρ : Ro) (σ : L2.St) : Prop := ρ.length = σ.length ∧ ∀ (i : Nat) (d : D), ρ[i]? = some (some d) → ∃ v, σ[i]? = some (some v) ∧ RelD K ι H d v
end
section
variable {K : PySem.W.Frag} {ι ι' : Ix} {H H' : Hp} {S : Store} {ρ : Ro} {σ : L2.St}
theorem EnvOk.monoG (e : Grow ι H ι' H') (h : EnvOk K ι H ρ σ) : EnvOk K ι' H' ρ σ := ⟨h.1, fun i d q => let ⟨v, a, b⟩ := h.2 i d q; ⟨v, a, b.monoG e⟩⟩
theorem EnvOk.mono (e : Ext ι H ι' H') (h : EnvOk K ι H ρ σ) : EnvOk K ι' H' ρ σ := h.monoG e.toGrow
theorem EnvOk.set (h : EnvOk K ι H ρ σ) {d : D} {v : V} (r : RelD K ι H d v) (i : Nat) : EnvOk K ι H (ρ.set i (some d)) (σ.set i (some v)) := by
  refine ⟨by rw [List.length_set, List.length_set, h.1], fun j x e => ?_⟩
  by_cases hj : i = j
  · subst hj
    have hl : i < ρ.length := by
      have := (List.getElem?_eq_some_iff.mp e).1
      simpa using this
    rw [List.getElem?_set_self hl] at e
    cases e
    exact ⟨v, List.getElem?_set_self (by rw [← h.1]; exact hl), r⟩
  · rw [List.getElem?_set_ne hj] at e
    obtain ⟨u, a, b⟩ := h.2 j x e
    exact ⟨u, by rw [List.getElem?_set_ne hj]; exact a, b⟩
def wipeR (ρ : Ro) : List Nat → Ro
  | [] => ρ
  | v :: vs => (wipeR ρ vs).set v none
theorem EnvOk.wipe (h : EnvOk K ι H ρ σ) : ∀ vs : List Nat, EnvOk K ι H (wipeR ρ vs) (wipe σ vs)
  | [] => h
  | v :: vs => by
    have q := EnvOk.wipe h vs
    unfold wipeR L2.wipe
    refine ⟨by rw [List.length_set, List.length_set, q.1], fun j x e => ?_⟩
    by_cases hj : v = j
    · subst hj
      by_cases hl : v < (wipeR ρ vs).length
      · rw [List.getElem?_set_self hl] at e; cases e
      · rw [List.getElem?_eq_none (by simpa using hl)] at e; cases e
    · rw [List.getElem?_set_ne hj] at e
      obtain ⟨u, a, b⟩ := q.2 j x e
      exact ⟨u, by rw [List.getElem?_set_ne hj]; exact a, b⟩
/-- a new object that stays as it is -/
theorem Grow.fresh {p : Addr} {o : HO} (hp : H p = none) : Grow ι H ι (upd H p o) :=
  ⟨fun _ _ h => h, fun _ h => .inl h, fun a u _ h => by rw [upd_ne (ne_of_none h hp)]; exact h, fun a u h => by rw [upd_ne (ne_of_none h hp)]; exact h, fun a o u h => by rw [upd_ne (ne_of_none h hp)]; exact h⟩
theorem Ext.fresh {p : Addr} {o : HO} (hp : H p = none) : Ext ι H ι (upd H p o) :=
  ⟨.fresh hp, rfl, fun a u _ h => by rw [upd_ne (ne_of_none h hp)]; exact h⟩
theorem CellR.mono (e : Grow ι H ι' H') {a : Addr} (h : ∀ o, H a = some o → H' a = some o) : ∀ {c : Cell}, CellR K ι H a c → CellR K ι' H' a c
  | .lst _, ⟨vs, h1, h2, h3⟩ => ⟨vs, h _ h1, h2, h3.monoG e⟩
  | .dK _ _, ⟨vs, h1, h2, h3⟩ => ⟨vs, h _ h1, h2, h3.monoG e⟩
  | .dT _ _, ⟨vs, h1, h2, h3⟩ => ⟨vs, h _ h1, h2, h3.monoG e⟩
theorem CellR.at {a : Addr} : ∀ {c : Cell}, CellR K ι H a c → ∃ o, H a = some o ∧ (∀ xs, o ≠ .tup xs) ∧ ∀ ob u, o ≠ .frz ob u
  | .lst _, ⟨vs, h1, _⟩ => ⟨_, h1, by simp, by simp⟩
  | .dK _ _, ⟨vs, h1, _⟩ => ⟨_, h1, by simp, by simp⟩
  | .dT _ _, ⟨vs, h1, _⟩ => ⟨_, h1, by simp, by simp⟩
theorem World.there (w : World K ι H S) {a : Addr} (h : a ∈ ι) : ∃ o, H a = some o ∧ (∀ xs, o ≠ .tup xs) ∧ ∀ ob u, o ≠ .frz ob u := by
  rcases h with h | h
  · obtain ⟨n, hn, e⟩ := List.mem_iff_getElem.mp h
    have hs : n < S.length := by rw [← w.len]; exact hn
    obtain ⟨b, e1, e2⟩ := w.cell n S[n] (List.getElem?_eq_getElem hs)
    rw [List.getElem?_eq_getElem hn, e] at e1
    cases e1
    exact e2.at
  · obtain ⟨xs, e⟩ := w.prv a h
    exact ⟨_, e, by simp, by simp⟩
theorem World.notin (w : World K ι H S) {p : Addr} (hp : H p = none) : p ∉ ι := fun h => by
  obtain ⟨u, e, _⟩ := w.there h
  rw [hp] at e; cases e
theorem World.fresh (w : World K ι H S) {p : Addr} {o : HO} (hp : H p = none) : World K ι (upd H p o) S :=
  ⟨w.len, w.nd, fun a ha => let ⟨xs, e⟩ := w.prv a ha; ⟨xs, by rw [upd_ne (ne_of_none e hp)]; exact e⟩, w.apt, w.bel, fun n c e => let ⟨a, h1, h2⟩ := w.cell n c e; ⟨a, h1, h2.mono (.fresh hp) fun u z => by rw [upd_ne (ne_of_none z hp)]; exact z⟩⟩
/-- a new cell -/
theorem Grow.cell' {p : Addr} (hp : H p = none ∨ p ∈ ι) (keep : ∀ a o, a ∉ ι → H a = some o → H' a = some o) (tup : ∀ a xs, H a = some (.tup xs) → H' a = some (.tup xs)) (frz : ∀ a o u, H a = some (.frz o u) → H' a = some (.frz o u)) : Grow ι H (ι.add p) H' :=
  ⟨fun n a h => by
      have hl := (List.getElem?_eq_some_iff.mp h).1
      show (ι.cs ++ [p])[n]? = some a
      rw [List.getElem?_append_left hl]; exact h,
   fun a h => by
      rcases h with h | h
      · rcases List.mem_append.mp h with h | h
        · exact .inl (.inl h)
        · rw [List.mem_singleton.mp h]; exact hp.symm
      · exact .inl (.inr h), keep, tup, frz⟩
theorem Grow.cell {p : Addr} {o : HO} (hp : H p = none) : Grow ι H (ι.add p) (upd H p o) :=
  .cell' (.inl hp) (fun a u _ h => by rw [upd_ne (ne_of_none h hp)]; exact h) (fun a u h => by rw [upd_ne (ne_of_none h hp)]; exact h) (fun a o u h => by rw [upd_ne (ne_of_none h hp)]; exact h)
theorem Ext.cell {p : Addr} {o : HO} (hp : H p = none) : Ext ι H (ι.add p) (upd H p o) :=
  ⟨.cell hp, rfl, fun a u _ h => by rw [upd_ne (ne_of_none h hp)]; exact h⟩
theorem World.cellAdd (w : World K ι H S) {p : Addr} {c : Cell} (hk : ∀ a, a ∈ ι → H' a = H a) (g : Grow ι H (ι.add p) H') (np : p ∉ ι.cs) (nv : p ∉ ι.pv) (hb : D.bels S.length c.items = true) (hc : CellR K (ι.add p) H' p c) : World K (ι.add p) H' (S ++ [c]) := by
  refine ⟨by simp [w.len, Ix.add], ?_, fun a ha => ?_, fun a ha z => ?_, fun n x e => ?_, fun n x e => ?_⟩
  · show (ι.cs ++ [p]).Nodup
    rw [List.nodup_append]
    exact ⟨w.nd, (by simp), fun a ha b hb z => by rw [List.mem_singleton.mp hb] at z; exact np (z ▸ ha)⟩
  · obtain ⟨xs, e⟩ := w.prv a ha
    exact ⟨xs, by rw [hk a (.inr ha)]; exact e⟩
  · have z : a ∈ ι.cs ++ [p] := z
    rcases List.mem_append.mp z with z | z
    · exact w.apt a ha z
    · rw [List.mem_singleton.mp z] at ha; exact nv ha
  · by_cases hn : n < S.length
    · rw [List.getElem?_append_left hn] at e; exact w.bel n x e
    · rw [List.getElem?_append_right (by omega)] at e
      have h0 : n - S.length = 0 := by
        have := (List.getElem?_eq_some_iff.mp e).1
        simp at this; omega
      rw [h0] at e
      cases e
      have : n = S.length := by omega
      rw [this]; exact hb
  · by_cases hn : n < S.length
    · rw [List.getElem?_append_left hn] at e
      obtain ⟨a, h1, h2⟩ := w.cell n x e
      exact ⟨a, g.pre n a h1, h2.mono g fun u z => by rw [hk a (.inl (List.mem_of_getElem? h1))]; exact z⟩
    · rw [List.getElem?_append_right (by omega)] at e
      have h0 : n - S.length = 0 := by
        have := (List.getElem?_eq_some_iff.mp e).1
        simp at this; omega
      rw [h0] at e
      cases e
      exact ⟨p, by show (ι.cs ++ [p])[n]? = some p; rw [List.getElem?_append_right (by rw [w.len]; omega), w.len, h0]; rfl, hc⟩
theorem World.cellNew (w : World K ι H S) {p : Addr} {o : HO} {c : Cell} (hp : H p = none) (hb : D.bels S.length c.items = true) (hc : CellR K (ι.add p) (upd H p o) p c) : World K (ι.add p) (upd H p o) (S ++ [c]) :=
  w.cellAdd (fun a ha => upd_ne fun z => w.notin hp (z ▸ ha)) (.cell hp) (fun z => w.notin hp (.inl z)) (fun z => w.notin hp (.inr z)) hb hc
/-- a cell is written -/
theorem World.apart (w : World K ι H S) {n m : Nat} {a : Addr} (h1 : ι.cs[n]? = some a) (h2 : ι.cs[m]? = some a) : n = m := by
  obtain ⟨l1, e1⟩ := List.getElem?_eq_some_iff.mp h1
  obtain ⟨l2, e2⟩ := List.getElem?_eq_some_iff.mp h2
  exact (List.getElem_inj w.nd).mp (e1.trans e2.symm)
theorem Grow.write (w : World K ι H S) {a : Addr} {o : HO} (h : a ∈ ι) : Grow ι H ι (upd H a o) := by
  obtain ⟨u, hu, nt, nf⟩ := w.there h
  refine ⟨fun _ _ h => h, fun _ h => .inl h, fun b x hb e => ?_, fun b x e => ?_, fun b x y e => ?_⟩
  · rw [upd_ne (fun z => hb (by rw [z]; exact h))]; exact e
  · rw [upd_ne (fun z => by subst z; rw [hu] at e; cases e; exact nt _ rfl)]; exact e
  · rw [upd_ne (fun z => by subst z; rw [hu] at e; cases e; exact nf _ _ rfl)]; exact e
theorem Ext.write (w : World K ι H S) {n : Nat} {a : Addr} {o : HO} (h : ι.cs[n]? = some a) : Ext ι H ι (upd H a o) :=
  ⟨.write w (.inl (List.mem_of_getElem? h)), rfl, fun b u hb e => by rw [upd_ne fun z => w.apt b hb (by rw [z]; exact List.mem_of_getElem? h)]; exact e⟩
theorem World.write (w : World K ι H S) {n : Nat} {a : Addr} {o : HO} {c : Cell} (h : ι.cs[n]? = some a) (hb : D.bels n c.items = true) (hc : CellR K ι (upd H a o) a c) : World K ι (upd H a o) (S.set n c) := by
  refine ⟨by simp [w.len], w.nd, fun b hb => ?_, w.apt, fun m x e => ?_, fun m x e => ?_⟩
  · obtain ⟨xs, e⟩ := w.prv b hb
    exact ⟨xs, (Ext.write w h).pvk b _ hb e⟩
  · by_cases hm : n = m
    · subst hm
      have hl := (List.getElem?_eq_some_iff.mp e).1
      rw [List.getElem?_set_self (by simpa using hl)] at e
      cases e; exact hb
    · rw [List.getElem?_set_ne hm] at e; exact w.bel m x e
  · by_cases hm : n = m
    · subst hm
      have hl := (List.getElem?_eq_some_iff.mp e).1
      rw [List.getElem?_set_self (by simpa using hl)] at e
      cases e; exact ⟨a, h, hc⟩
    · rw [List.getElem?_set_ne hm] at e
      obtain ⟨b, h1, h2⟩ := w.cell m x e
      refine ⟨b, h1, h2.mono (Ext.write w h).toGrow fun u z => ?_⟩
      rw [upd_ne fun q => hm (by rw [q] at h1; exact w.apart h h1)]; exact z
theorem World.cut (w : World K ι H S) (m : Nat) : World K (ι.take m) H (S.take m) := by
  refine ⟨by show (ι.cs.take m).length = _; rw [List.length_take, List.length_take, w.len], w.nd.sublist (List.take_sublist _ _), w.prv, fun a ha z => w.apt a ha (List.mem_of_mem_take z), fun n c e => ?_, fun n c e => ?_⟩
  · rw [List.getElem?_take] at e
    split at e
    · exact w.bel n c e
    · cases e
  · rw [List.getElem?_take] at e
    split at e
    · rename_i hn
      obtain ⟨a, h1, h2⟩ := w.cell n c e
      refine ⟨a, getElem?_take_some hn h1, ?_⟩
      have hb := D.bels_mono (Nat.le_of_lt hn) _ (w.bel n c e)
      cases c with
      | lst ds => obtain ⟨vs, q1, q2, q3⟩ := h2; exact ⟨vs, q1, q2, q3.cut _ hb⟩
      | dK ks ds => obtain ⟨vs, q1, q2, q3⟩ := h2; exact ⟨vs, q1, q2, q3.cut _ hb⟩
      | dT ks ds => obtain ⟨vs, q1, q2, q3⟩ := h2; exact ⟨vs, q1, q2, q3.cut _ hb⟩
    · cases e

/-! ### a list in the making -/
theorem Grow.priv {p : Addr} (hp : H p = none) {o : HO} : Grow ι H (ι.priv p) (upd H p o) :=
  ⟨fun _ _ h => h, fun a h => by
    rcases h with h | h
    · exact .inl (.inl h)
    · rcases List.mem_cons.mp h with h | h
      · rw [h]; exact .inr hp
      · exact .inl (.inr h),
   fun a u _ h => by rw [upd_ne (ne_of_none h hp)]; exact h, fun a u h => by rw [upd_ne (ne_of_none h hp)]; exact h, fun a o u h => by rw [upd_ne (ne_of_none h hp)]; exact h⟩
theorem World.priv (w : World K ι H S) {p : Addr} {xs : List V} (hp : H p = none) : World K (ι.priv p) (upd H p (.lst xs)) S :=
  ⟨w.len, w.nd, fun a ha => by
    rcases List.mem_cons.mp ha with h | h
    · rw [h]; exact ⟨xs, upd_same⟩
    · obtain ⟨ys, e⟩ := w.prv a h
      exact ⟨ys, by rw [upd_ne (ne_of_none e hp)]; exact e⟩,
   fun a ha z => by
    rcases List.mem_cons.mp ha with h | h
    · rw [h] at z; exact w.notin hp (.inl z)
    · exact w.apt a h z, w.bel,
   fun n c e => let ⟨a, h1, h2⟩ := w.cell n c e; ⟨a, h1, h2.mono (.priv hp) fun u z => by rw [upd_ne (ne_of_none z hp)]; exact z⟩⟩
/-- it gets longer -/
theorem World.privSet (w : World K ι H S) {p : Addr} {xs : List V} (hp : p ∈ ι.pv) : World K ι (upd H p (.lst xs)) S :=
  ⟨w.len, w.nd, fun a ha => by
    by_cases h : a = p
    · rw [h]; exact ⟨xs, upd_same⟩
    · obtain ⟨ys, e⟩ := w.prv a ha
      exact ⟨ys, by rw [upd_ne h]; exact e⟩, w.apt, w.bel,
   fun n c e => let ⟨a, h1, h2⟩ := w.cell n c e; ⟨a, h1, h2.mono (.write w (.inr hp)) fun u z => by rw [upd_ne fun q => w.apt p hp (by rw [← q]; exact List.mem_of_getElem? h1)]; exact z⟩⟩
/-- it is done -/
theorem Grow.done {p : Addr} : Grow (ι.priv p) H ι H :=
  ⟨fun _ _ h => h, fun a h => by
    rcases h with h | h
    · exact .inl (.inl h)
    · exact .inl (.inr (List.mem_cons_of_mem _ h)), fun a o ha h => h, fun _ _ h => h, fun _ _ _ h => h⟩
theorem World.done {p : Addr} (w : World K (ι.priv p) H S) : World K ι H S :=
  ⟨w.len, w.nd, fun a ha => w.prv a (List.mem_cons_of_mem _ ha), fun a ha => w.apt a (List.mem_cons_of_mem _ ha), w.bel,
   fun n c e => let ⟨a, h1, h2⟩ := w.cell n c e; ⟨a, h1, h2.mono .done fun u z => z⟩⟩
end
end G
end

section
set_option Elab.async false
set_option linter.all false
set_option maxRecDepth 100000
namespace G
open PySem PySem.Spec PyProof.Rows L2

theorem M.bind_inv {α β : Type} {m : M α} {f : α → M β} {S S' : Store} {b : β} (h : M.bind m f S = .ok b S') : ∃ a S1, m S = .ok a S1 ∧ f a S1 = .ok b S' := by
  unfold M.bind at h
  cases e : m S with
  | ok a S1 => rw [e] at h; exact ⟨a, S1, rfl, h⟩
  | exc _ _ _ => rw [e] at h; cases h
  | bad => rw [e] at h; cases h
/-! ### what a reckoning's end hands on -/
section
variable {K : PySem.W.Frag} {ι ι' : Ix} {H H' : Hp} {S : Store} {ρ : Ro} {σ : L2.St}
def Fin (K : PySem.W.Frag) {α β : Type} (Rel : Ix → Hp → α → β → Prop) (ι : Ix) (H : Hp) (Q : β → Hp → Prop) : R α → Prop
  | .ok a S' => ∀ ι' H' b, Ext ι H ι' H' → World K ι' H' S' → Rel ι' H' a b → Q b H'
  | _ => False
theorem Fin.mono {α β : Type} {Rel : Ix → Hp → α → β → Prop} {Q : β → Hp → Prop} (e : Ext ι H ι' H') : ∀ {r : R α}, Fin K Rel ι H Q r → Fin K Rel ι' H' Q r
  | .ok _ _, h => fun ι2 H2 b e2 w r => h ι2 H2 b (e.trans e2) w r
  | .exc _ _ _, h => h
  | .bad, h => h
theorem Fin.imp {α β : Type} {Rel : Ix → Hp → α → β → Prop} {Q Q' : β → Hp → Prop} (q : ∀ b H, Q b H → Q' b H) : ∀ {r : R α}, Fin K Rel ι H Q r → Fin K Rel ι H Q' r
  | .ok _ _, h => fun ι2 H2 b e2 w r => q _ _ (h ι2 H2 b e2 w r)
  | .exc _ _ _, h => h
  | .bad, h => h
theorem Fin.bind {α β γ δ : Type} {R1 : Ix → Hp → α → β → Prop} {R2 : Ix → Hp → γ → δ → Prop} {Q : δ → Hp → Prop} {Q1 : β → Hp → Prop} {m : M α} {f : α → M γ}
    (h : Fin K R2 ι H Q (M.bind m f S))
    (k : ∀ a S1 ι1 H1 b, Ext ι H ι1 H1 → World K ι1 H1 S1 → R1 ι1 H1 a b → Fin K R2 ι1 H1 Q (f a S1) → Q1 b H1) : Fin K R1 ι H Q1 (m S) := by
  unfold M.bind at h
  cases q : m S with
  | ok a S1 =>
    rw [q] at h
    exact fun ι1 H1 b e w r => k a S1 ι1 H1 b e w r (h.mono e)
  | exc c fs S1 => rw [q] at h; exact h.elim
  | bad => rw [q] at h; exact h.elim
theorem Fin.bindE {α β γ δ : Type} {R1 : Ix → Hp → α → β → Prop} {R2 : Ix → Hp → γ → δ → Prop} {Q : δ → Hp → Prop} {Q1 : β → Hp → Prop} {m : M α} {f : α → M γ}
    (h : Fin K R2 ι H Q (M.bind m f S))
    (k : ∀ a S1 ι1 H1 b, m S = .ok a S1 → Ext ι H ι1 H1 → World K ι1 H1 S1 → R1 ι1 H1 a b → Fin K R2 ι1 H1 Q (f a S1) → Q1 b H1) : Fin K R1 ι H Q1 (m S) := by
  unfold M.bind at h
  cases q : m S with
  | ok a S1 =>
    rw [q] at h
    exact fun ι1 H1 b e w r => k a S1 ι1 H1 b q e w r (h.mono e)
  | exc c fs S1 => rw [q] at h; exact h.elim
  | bad => rw [q] at h; exact h.elim
def EqB (_ : Ix) (_ : Hp) (a b : Bool) : Prop := a = b
def EqOI (_ : Ix) (_ : Hp) (a b : Option Int) : Prop := a = b

/-- at a state -/
def At (K : PySem.W.Frag) (σ : L2.St) (H : Hp) (p : Ro → Store → Ix → Prop) : Prop := ∃ (ρ : Ro) (S : Store) (ι : Ix), World K ι H S ∧ EnvOk K ι H ρ σ ∧ p ρ S ι
def tE (K : PySem.W.Frag) (f : Ro → M D) : TE := fun σ H Q => At K σ H fun ρ S ι => Fin K (RelD K) ι H Q (f ρ S)
def tA (K : PySem.W.Frag) (f : Ro → M (List D)) : TA := fun σ H Q => At K σ H fun ρ S ι => Fin K (RelDs K) ι H Q (f ρ S)
def tT (K : PySem.W.Frag) (f : Ro → M Bool) : TT := fun σ H Q => At K σ H fun ρ S ι => Fin K EqB ι H Q (f ρ S)
def tO (K : PySem.W.Frag) (f : Ro → M (Option Int)) : TO := fun σ H Q => At K σ H fun ρ S ι => Fin K EqOI ι H Q (f ρ S)
/-- an operation on values -/
def rD2 (K : PySem.W.Frag) (op : D → D → M D) : R2 := fun vx vy H Q => ∃ (x y : D) (S : Store) (ι : Ix), World K ι H S ∧ RelD K ι H x vx ∧ RelD K ι H y vy ∧ Fin K (RelD K) ι H Q (op x y S)
def rD1 (K : PySem.W.Frag) (op : D → M D) : V → Hp → VK → Prop := fun vx H Q => ∃ (x : D) (S : Store) (ι : Ix), World K ι H S ∧ RelD K ι H x vx ∧ Fin K (RelD K) ι H Q (op x S)
def rDs (K : PySem.W.Frag) (op : List D → M D) : List V → Hp → VK → Prop := fun vs H Q => ∃ (ds : List D) (S : Store) (ι : Ix), World K ι H S ∧ RelDs K ι H ds vs ∧ Fin K (RelD K) ι H Q (op ds S)
theorem EnvOk.var (h : EnvOk K ι H ρ σ) {i : Nat} {d : D} (e : ρ[i]? = some (some d)) : ∃ v, σ[i]? = some (some v) ∧ RelD K ι H d v := h.2 i d e
end
theorem PE.weak {X : Cx} {e : Expr} {t t' : TE} (h : PE X e t) (w : ∀ σ H Q, t' σ H Q → t σ H Q) : PE X e t' := ⟨fun pins s σ H Q I q => h.run pins s σ H Q I (w _ _ _ q)⟩
theorem PT.weak {X : Cx} {e : Expr} {t t' : TT} (h : PT X e t) (w : ∀ σ H Q, t' σ H Q → t σ H Q) : PT X e t' := ⟨fun pins s σ H Q I q => h.run pins s σ H Q I (w _ _ _ q)⟩
theorem PW.weak {X : Cx} {e : Expr} {t t' : TT} (h : PW X e t) (w : ∀ σ H Q, t' σ H Q → t σ H Q) : PW X e t' := ⟨fun wh pins s σ H Q I q => h.run wh pins s σ H Q I (w _ _ _ q)⟩
theorem PA.weak {X : Cx} {e : List Expr} {t t' : TA} (h : PA X e t) (w : ∀ σ H Q, t' σ H Q → t σ H Q) : PA X e t' := ⟨fun pos pins s σ H Q I q => h.run pos pins s σ H Q I (w _ _ _ q)⟩
theorem PS.weak {X : Cx} {e : Stmt} {t t' : TS} (h : PS X e t) (w : ∀ D σ H, t' D σ H → t D σ H) : PS X e t' := ⟨fun pins s σ H D I q => h.run pins s σ H D I (w _ _ _ q)⟩
theorem PSs.weak {X : Cx} {e : List Stmt} {t t' : TS} (h : PSs X e t) (w : ∀ D σ H, t' D σ H → t D σ H) : PSs X e t' := ⟨fun pins s σ H D I q => h.run pins s σ H D I (w _ _ _ q)⟩

/-! ### the promise of a def -/
def spOf (K : PySem.W.Frag) (n : Nat) (φ : List D → M D) : Sp := fun vs H Q _ => vs.length = n ∧ ∃ (ds : List D) (S : Store) (ι : Ix), World K ι H S ∧ RelDs K ι H ds vs ∧ Fin K (RelD K) ι H Q (φ ds S)

/-! ### contexts -/
structure Info where
  fre : List Str := []
  fns : List (Str × List Str) := []
  nums : List (Str × Int) := []
  kws : List (Nat × Nat × List Str) := []
  typs : List (Str × String) := []
structure Lx where
  I : Info
  N : List Str
  sc : Scope
  fn : Str → Bool
/-- positional and named arguments in the parameters' order -/
def arr {α : Type} (ps : List Str) (n : Nat) (ks : List Str) (us ws : List α) : List α :=
  us ++ (ps.drop n).filterMap fun p => ((ks.zip ws).lookup p)
structure FnIn (X : Cx) (k : Nat) (x : Str) (ps : List Str) (kw : List (Nat × List Str)) (φ : List D → M D) : Prop where
  ex : ∃ (a : Addr) (fd : FuncData), X.mg x = some (.ref a) ∧ PySem.W.keepIn X.K (.ref a) = true ∧ Binds X.K fd ps [] ∧
    (∀ q ∈ kw, KBn X.K fd ps q.1 q.2 (arr ps q.1 q.2) (arr ps q.1 q.2)) ∧ FnOk X.prog X.w X.K X.mg X.base CX0 k a fd ps (spOf X.K ps.length φ)
def Info.kwOf (I : Info) (i : Nat) : List (Nat × List Str) := (I.kws.filter fun q => q.1 == i).map (·.2)
structure Gd (L : Lx) (Φ : Ph) (X : Cx) : Prop where
  N : X.N = L.N
  sc : X.env.scope = L.sc
  fn : ∀ x, X.fn x = L.fn x
  nd : X.N.Nodup
  calm : X.calm = true
  fns : ∃ k, Room k X.A ∧ ∀ (i : Nat) (x : Str) (ps : List Str), L.I.fns[i]? = some (x, ps) → FnIn X k x ps (L.I.kwOf i) (Φ i)
  fre : ∀ x ∈ L.I.fre, X.mg x = none
  nums : ∀ p ∈ L.I.nums, ∃ t, X.mg p.1 = some (.int p.2 t)
  typ : ∀ p ∈ L.I.typs, X.mg p.1 = some (.type p.2)
  po : PassesOwn (model X.prog X.w) X.A X.env X.xe
theorem Gd.hu {L : Lx} {Φ : Ph} {X : Cx} (g : Gd L Φ X) : X.A.units + 100 < cLine := let ⟨_, r, _⟩ := g.fns; by have := r.un; omega

/-! ### forms of the text -/
def plainE : Expr → Bool
  | .Starred .. => false
  | .Slice .. => false
  | .Set .. => false
  | _ => true
def isComp : Expr → Bool
  | .ListComp .. => true
  | .SetComp .. => true
  | .DictComp .. => true
  | _ => false
def isTup : Expr → Bool
  | .Tuple .. => true
  | _ => false
/-- isTrue takes its own road -/
def ownT : Expr → Bool
  | .UnaryOp .Not _ _ => true
  | .BoolOp .. => true
  | .IfExp .. => true
  | .Compare .. => true
  | _ => false
theorem starEach_pl {e : Expr} (h : plainE e = true) (es : List Expr) (env : Env) : starEach (e :: es) env = (false, eval e env) :: starEach es env := by
  cases e <;> first | rfl | cases h
theorem behind_pl {e : Expr} (h : plainE e = true) (op : CmpOp) : behindInMarks op e = false := by
  cases e <;> first | rfl | cases h
theorem plainIx_pl {e : Expr} (h : plainE e = true) : PlainIx e := by
  intro o i
  cases e <;> first | rfl | cases h
theorem folded_pl {e : Expr} (h : plainE e = true) (env : Env) (x : Value) : foldedSetIterable e env x = pure x := by
  cases e <;> first | rfl | cases h
theorem swaps_no {e : Expr} (h : isComp e = false) (t : Option Expr) (l : Nat) (env : Env) : swapsWith e t l env = pure false := by
  cases e <;> first | rfl | cases h
theorem isTrue_own {e : Expr} (h : ownT e = false) (env : Env) (whole : Sem Value) : isTrue e env whole = (do let v ← whole; standAt e.pos; holding [v] (truthy v)) := by
  cases e with
  | UnaryOp op x p => cases op <;> first | rfl | cases h
  | _ => first | rfl | cases h

/-! ### an expression: its text, its reckoning, the proof that they agree -/
def truth (d : D) (S : Store) : Option Bool := match d with
  | .non => some false
  | .bl b => some b
  | .int i => some (i != 0)
  | .str s => if s.length ≤ 16777216 then some ((s.length : Int) != 0) else none
  | .tup xs => some !xs.isEmpty
  | .lst xs => some !xs.isEmpty
  | .rol xs => some !xs.isEmpty
  | .dct ks _ => some !ks.isEmpty
  | .tpk xs => some !xs.isEmpty
  | .ref n => match S[n]? with
    | some (.lst xs) => some !xs.isEmpty
    | _ => none
def truM (d : D) : M Bool := fun S => match truth d S with
  | some b => .ok b S
  | none => .bad
abbrev Tv := Ph → Ro → M Bool
def tvOf (e : Ev) : Tv := fun Φ ρ => (e Φ ρ).bind truM
structure CE (ev : Ev) where
  py : Expr
  chk : Lx → Bool
  pl : plainE py = true
  ok : ∀ (L : Lx) (Φ : Ph) (X : Cx), Gd L Φ X → chk L = true → PE X py (tE X.K (ev Φ))
theorem plain_any : ∀ {es : List Expr}, (∀ e ∈ es, plainE e = true) → ∀ (pos : Pos) (env : Env), (backTo pos (starEach es env)).any (·.1) = false
  | [], _, _, _ => rfl
  | e :: es, h, pos, env => by
    rw [starEach_pl (h e (by simp))]
    show ((false, _) :: backTo pos (starEach es env)).any (·.1) = false
    rw [List.any_cons, plain_any (fun x hx => h x (by simp [hx])) pos env]
    rfl
theorem plain_all : ∀ {es : List Expr}, (∀ e ∈ es, plainE e = true) → ∀ (pos : Pos) (env : Env), (backTo pos (starEach es env)).all (fun x => !x.1) = true
  | [], _, _, _ => rfl
  | e :: es, h, pos, env => by
    rw [starEach_pl (h e (by simp))]
    show ((false, _) :: backTo pos (starEach es env)).all (fun x => !x.1) = true
    rw [List.all_cons, plain_all (fun x hx => h x (by simp [hx])) pos env]
    rfl
structure CT (tv : Tv) where
  py : Expr
  chk : Lx → Bool
  ok : ∀ (L : Lx) (Φ : Ph) (X : Cx), Gd L Φ X → chk L = true → PT X py (tT X.K (tv Φ))
structure CA (ev : Ph → Ro → M (List D)) where
  py : List Expr
  chk : Lx → Bool
  /-- no star -/
  pl : Bool
  plOk : pl = true → ∀ e ∈ py, plainE e = true
  len : pl = true → ∀ (Φ : Ph) (ρ : Ro) (S : Store) (ds : List D) (S' : Store), ev Φ ρ S = .ok ds S' → ds.length = py.length
  ok : ∀ (L : Lx) (Φ : Ph) (X : Cx), Gd L Φ X → chk L = true → PA X py (tA X.K (ev Φ))

section
variable {K : PySem.W.Frag} {ι : Ix} {H : Hp} {S : Store}
theorem relD_non {v : V} : RelD K ι H .non v ↔ v = .non := by unfold RelD; exact Iff.rfl
theorem relD_bl {b : Bool} {v : V} : RelD K ι H (.bl b) v ↔ v = .bl b := by unfold RelD; exact Iff.rfl
theorem relD_int {i : Int} {v : V} : RelD K ι H (.int i) v ↔ v = .int i := by unfold RelD; exact Iff.rfl
theorem relD_str {s : Str} {v : V} : RelD K ι H (.str s) v ↔ v = .str s := by unfold RelD; exact Iff.rfl
theorem relD_tup {ds : List D} {v : V} : RelD K ι H (.tup ds) v ↔ ∃ a vs, v = .ref a ∧ TupS K H a vs ∧ vs.length ≤ sizeLine ∧ RelDs K ι H ds vs := by unfold RelD; exact Iff.rfl
theorem relD_tpk {ds : List D} {v : V} : RelD K ι H (.tpk ds) v ↔ ∃ a vs, v = .ref a ∧ SqT K H a vs ∧ vs.length ≤ sizeLine ∧ RelDs K ι H ds vs := by unfold RelD; exact Iff.rfl
theorem relD_lst {ds : List D} {v : V} : RelD K ι H (.lst ds) v ↔ ∃ a vs, v = .ref a ∧ H a = some (.lst vs) ∧ vs.length ≤ sizeLine ∧ a ∉ ι ∧ RelDs K ι H ds vs := by unfold RelD; exact Iff.rfl
theorem relD_rol {ds : List D} {v : V} : RelD K ι H (.rol ds) v ↔ ∃ a vs, v = .ref a ∧ ((∃ o, H a = some (.frz o (.lst vs))) ∨ KLst K a vs) ∧ vs.length ≤ sizeLine ∧ RelDs K ι H ds vs := by unfold RelD; exact Iff.rfl
theorem relD_dct {ks : List Key} {ds : List D} {v : V} : RelD K ι H (.dct ks ds) v ↔ ∃ (a : Addr) (kvs : List (Key × V)), v = .ref a ∧ H a = some (.dK kvs) ∧ a ∉ ι ∧ kvs.map (·.1) = ks ∧ RelDs K ι H ds (kvs.map (·.2)) := by unfold RelD; exact Iff.rfl
theorem relD_ref {n : Nat} {v : V} : RelD K ι H (.ref n) v ↔ ∃ a, v = .ref a ∧ ι.cs[n]? = some a := by unfold RelD; exact Iff.rfl
theorem World.lstAt (w : World K ι H S) {n : Nat} {ds : List D} (e : S[n]? = some (.lst ds)) : ∃ a vs, ι.cs[n]? = some a ∧ H a = some (.lst vs) ∧ vs.length ≤ sizeLine ∧ RelDs K ι H ds vs := by
  obtain ⟨a, h, vs, q⟩ := w.cell n _ e
  exact ⟨a, vs, h, q⟩
/-- the items of a list, however it stands -/
def lstOf (d : D) (S : Store) : Option (List D) := match d with
  | .lst xs => some xs
  | .rol xs => some xs
  | .ref n => match S[n]? with
    | some (.lst xs) => some xs
    | _ => none
  | _ => none
theorem lstOf_ok (w : World K ι H S) {d : D} {v : V} {xs : List D} (r : RelD K ι H d v) (e : lstOf d S = some xs) : ∃ a vs, v = .ref a ∧ SqL K H a vs ∧ vs.length ≤ sizeLine ∧ RelDs K ι H xs vs := by
  cases d with
  | lst ys =>
    obtain ⟨a, vs, h1, h2, h3, _, h5⟩ := relD_lst.mp r
    cases e
    exact ⟨a, vs, h1, .inl (.inl h2), h3, h5⟩
  | rol ys =>
    obtain ⟨a, vs, h1, h2, h3, h5⟩ := relD_rol.mp r
    cases e
    exact ⟨a, vs, h1, h2.elim (fun ⟨o, z⟩ => .inl (.inr ⟨o, z⟩)) .inr, h3, h5⟩
  | ref n =>
    obtain ⟨a, h1, h2⟩ := relD_ref.mp r
    have e : (match S[n]? with | some (.lst xs) => some xs | _ => none) = some xs := e
    split at e
    · rename_i hn
      cases e
      obtain ⟨b, vs, h3, h4, h5, h6⟩ := w.lstAt hn
      rw [h2] at h3; cases h3
      exact ⟨a, vs, h1, .inl (.inl h4), h5, h6⟩
    · cases e
  | _ => cases e
/-- .. as a tracked list -/
def lstTr (d : D) (S : Store) : Option (List D) := match d with
  | .lst xs => some xs
  | .ref n => match S[n]? with
    | some (.lst xs) => some xs
    | _ => none
  | _ => none
theorem lstTr_ok (w : World K ι H S) {d : D} {v : V} {xs : List D} (r : RelD K ι H d v) (e : lstTr d S = some xs) : ∃ a vs, v = .ref a ∧ H a = some (.lst vs) ∧ vs.length ≤ sizeLine ∧ RelDs K ι H xs vs := by
  cases d with
  | lst ys =>
    obtain ⟨a, vs, h1, h2, h3, _, h5⟩ := relD_lst.mp r
    cases e
    exact ⟨a, vs, h1, h2, h3, h5⟩
  | ref n =>
    obtain ⟨a, h1, h2⟩ := relD_ref.mp r
    have e : (match S[n]? with | some (.lst xs) => some xs | _ => none) = some xs := e
    split at e
    · rename_i hn
      cases e
      obtain ⟨b, vs, h3, h4, h5, h6⟩ := w.lstAt hn
      rw [h2] at h3; cases h3
      exact ⟨a, vs, h1, h4, h5, h6⟩
    · cases e
  | _ => cases e
/-- the items of a list or a tuple -/
def seqOf (d : D) (S : Store) : Option (List D) := match d with
  | .tup xs => some xs
  | .tpk xs => some xs
  | _ => lstOf d S
theorem seqOf_ok (w : World K ι H S) {d : D} {v : V} {xs : List D} (r : RelD K ι H d v) (e : seqOf d S = some xs) : ∃ a vs, v = .ref a ∧ (SqL K H a vs ∨ SqT K H a vs) ∧ vs.length ≤ sizeLine ∧ RelDs K ι H xs vs := by
  cases d with
  | tup ys =>
    obtain ⟨a, vs, h1, h2, h3, h5⟩ := relD_tup.mp r
    cases e
    exact ⟨a, vs, h1, .inr h2.sq, h3, h5⟩
  | tpk ys =>
    obtain ⟨a, vs, h1, h2, h3, h5⟩ := relD_tpk.mp r
    cases e
    exact ⟨a, vs, h1, .inr h2, h3, h5⟩
  | _ =>
    obtain ⟨a, vs, h1, h2, h3⟩ := lstOf_ok w r e
    exact ⟨a, vs, h1, .inl h2, h3⟩
theorem RelDs.isEmpty {ds : List D} {vs : List V} (h : RelDs K ι H ds vs) : (!vs.isEmpty) = !ds.isEmpty := by
  cases ds with
  | nil => unfold RelDs at h; rw [h]; rfl
  | cons d r => unfold RelDs at h; obtain ⟨v, vr, e, _⟩ := h; rw [e]; rfl
theorem truth_ok (w : World K ι H S) {d : D} {v : V} {b : Bool} (r : RelD K ι H d v) (e : truth d S = some b) : TruV K v H b := by
  have hz := sizeLine_eq
  cases d with
  | non => rw [relD_non.mp r]; cases e; rfl
  | bl c => rw [relD_bl.mp r]; cases e; rfl
  | int i => rw [relD_int.mp r]; cases e; rfl
  | str s =>
    rw [relD_str.mp r]
    have e : (if s.length ≤ 16777216 then some ((s.length : Int) != 0) else none) = some b := e
    split at e
    · rename_i hl
      cases e
      exact ⟨by rw [hz]; exact hl, rfl⟩
    · cases e
  | tup xs =>
    obtain ⟨a, vs, h1, h2, h3, h5⟩ := relD_tup.mp r
    cases e
    rw [h1]
    exact .inr (.inl ⟨vs, h2.sq, h5.isEmpty.symm⟩)
  | tpk xs =>
    obtain ⟨a, vs, h1, h2, h3, h5⟩ := relD_tpk.mp r
    cases e
    rw [h1]
    exact .inr (.inl ⟨vs, h2, h5.isEmpty.symm⟩)
  | lst xs =>
    obtain ⟨a, vs, h1, h2, h3⟩ := lstOf_ok w r (show lstOf (.lst xs) S = some xs from rfl)
    cases e
    rw [h1]
    exact .inl ⟨vs, h2, h3.2.isEmpty.symm⟩
  | rol xs =>
    obtain ⟨a, vs, h1, h2, h3⟩ := lstOf_ok w r (show lstOf (.rol xs) S = some xs from rfl)
    cases e
    rw [h1]
    exact .inl ⟨vs, h2, h3.2.isEmpty.symm⟩
  | dct ks xs =>
    obtain ⟨a, kvs, h1, h2, h3, h4, h5⟩ := relD_dct.mp r
    cases e
    rw [h1]
    refine .inr (.inr ⟨kvs, h2, ?_⟩)
    rw [← h4]
    cases kvs <;> rfl
  | ref n =>
    have e : (match S[n]? with | some (.lst xs) => some !xs.isEmpty | _ => none) = some b := e
    split at e
    · rename_i xs hn
      obtain ⟨a, vs, h1, h2, h3⟩ := lstOf_ok w r (show (match S[n]? with | some (.lst xs) => some xs | _ => none) = some xs by rw [hn])
      cases e
      rw [h1]
      exact .inl ⟨vs, h2, h3.2.isEmpty.symm⟩
    · cases e
end
/-- the truth of an expression that has no road of its own -/
def CE.test {ev : Ev} (c : CE ev) (h : ownT c.py = false := by rfl) : CT (tvOf ev) where
  py := c.py
  chk := c.chk
  ok := fun L Φ X g q => PT.weak (pt_truth (c.ok L Φ X g q) (isTrue_own h X.env)) fun σ H Q ⟨ρ, S, ι, w, e, f⟩ => ⟨ρ, S, ι, w, e, Fin.bind f fun d S1 ι1 H1 v e1 w1 r1 f1 => by
    unfold truM at f1
    split at f1
    · rename_i b hb
      exact ⟨b, truth_ok w1 r1 hb, f1 ι1 H1 b (.refl _ _) w1 rfl⟩
    · exact f1.elim⟩

/-! ### names and constants -/
def visB (sc : Scope) (x : Str) : Bool := match sc.names.lookup x with
  | some .local => true
  | some .cell => true
  | some .free => true
  | _ => false
theorem visB_ok {sc : Scope} {x : Str} (h : visB sc x = true) : Vis sc x := by
  unfold visB at h
  split at h <;> first | exact .inl (by assumption) | exact .inr (.inl (by assumption)) | exact .inr (.inr (by assumption)) | cases h
def nameOk (x : Str) : Bool := !(x == ("__debug__" : Str)) && !(x == ("__classdict__" : Str)) && decide (x ≠ "__name__")
theorem nameOk_ok {x : Str} (h : nameOk x = true) : (x == ("__debug__" : Str)) = false ∧ (x == ("__classdict__" : Str)) = false ∧ x ≠ "__name__" := by
  unfold nameOk at h
  simp only [Bool.and_eq_true, Bool.not_eq_true', decide_eq_true_eq] at h
  exact ⟨h.1.1, h.1.2, h.2⟩
def glB (sc : Scope) (x : Str) : Bool := match sc.names.lookup x with
  | some .globalImplicit => true
  | _ => false
theorem glB_ok {sc : Scope} {x : Str} (h : glB sc x = true) : sc.names.lookup x = some .globalImplicit := by
  unfold glB at h
  split at h <;> first | assumption | cases h
theorem Gd.gl {L : Lx} {Φ : Ph} {X : Cx} (g : Gd L Φ X) {x : Str} (h : glB L.sc x = true) : Gl X x := by
  show X.env.scope.names.lookup x = some .globalImplicit
  rw [g.sc]; exact glB_ok h
def eVar (i : Nat) : Ev := fun _ ρ S => match ρ[i]? with
  | some (some d) => .ok d S
  | _ => .bad
def eC (d : D) : Ev := fun _ _ => M.ok d
theorem ba {a b : Bool} (h : (a && b) = true) : a = true ∧ b = true := Bool.and_eq_true_iff.mp h
def cVar (i : Nat) (x : Str) (p : Pos) : CE (eVar i) where
  py := .Name x p
  chk := fun L => decide (L.N[i]? = some x) && (visB L.sc x && nameOk x)
  pl := rfl
  ok := fun L Φ X g q => by
    obtain ⟨q1, q2⟩ := ba q
    obtain ⟨q2, q3⟩ := ba q2
    obtain ⟨n1, n2, _⟩ := nameOk_ok q3
    refine PE.weak (pe_var (i := i) (by rw [g.N]; exact of_decide_eq_true q1) (by rw [g.sc]; exact visB_ok q2) n1 n2) fun σ H Q ⟨ρ, S, ι, w, e, f⟩ => ?_
    have f : Fin X.K (RelD X.K) ι H Q (match ρ[i]? with | some (some d) => .ok d S | _ => .bad) := f
    split at f
    · rename_i d hd
      obtain ⟨v, h1, h2⟩ := e.var hd
      exact ⟨v, h1, f ι H v (.refl _ _) w h2⟩
    · exact f.elim
theorem Fin.now {K : PySem.W.Frag} {ι : Ix} {H : Hp} {S : Store} {α β : Type} {Rel : Ix → Hp → α → β → Prop} {Q : β → Hp → Prop} {a : α} {b : β} (f : Fin K Rel ι H Q (.ok a S)) (w : World K ι H S) (r : Rel ι H a b) : Q b H := f ι H b (.refl _ _) w r
def cInt (i : Int) (k : Nat) (p : Pos) : CE (eC (.int i)) where
  py := .Constant (.int i) k p
  chk := fun _ => true
  pl := rfl
  ok := fun L Φ X g q => PE.weak pe_int fun σ H Q ⟨ρ, S, ι, w, e, f⟩ => f.now w (relD_int.mpr rfl)
def cBl (b : Bool) (k : Nat) (p : Pos) : CE (eC (.bl b)) where
  py := .Constant (.bool b) k p
  chk := fun _ => true
  pl := rfl
  ok := fun L Φ X g q => PE.weak pe_bl fun σ H Q ⟨ρ, S, ι, w, e, f⟩ => f.now w (relD_bl.mpr rfl)
def cNon (k : Nat) (p : Pos) : CE (eC .non) where
  py := .Constant .none k p
  chk := fun _ => true
  pl := rfl
  ok := fun L Φ X g q => PE.weak pe_non fun σ H Q ⟨ρ, S, ι, w, e, f⟩ => f.now w (relD_non.mpr rfl)
def cStr (s : Str) (k : Nat) (p : Pos) : CE (eC (.str s)) where
  py := .Constant (.str s) k p
  chk := fun _ => true
  pl := rfl
  ok := fun L Φ X g q => PE.weak pe_str fun σ H Q ⟨ρ, S, ι, w, e, f⟩ => f.now w (relD_str.mpr rfl)
/-- a module's int -/
def cGInt (x : Str) (i : Int) (p : Pos) : CE (eC (.int i)) where
  py := .Name x p
  chk := fun L => decide ((x, i) ∈ L.I.nums) && (glB L.sc x && nameOk x)
  pl := rfl
  ok := fun L Φ X g q => by
    obtain ⟨q1, q2⟩ := ba q
    obtain ⟨q2, q3⟩ := ba q2
    obtain ⟨n1, n2, _⟩ := nameOk_ok q3
    obtain ⟨t, ht⟩ := g.nums _ (of_decide_eq_true q1)
    exact PE.weak (pe_glob (v := .int i) (g.gl q2) ht ⟨t, rfl⟩ n1) fun σ H Q ⟨ρ, S, ι, w, e, f⟩ => f.now w (relD_int.mpr rfl)

/-! ### lists of arguments -/
def aNil : Ph → Ro → M (List D) := fun _ _ => M.ok []
def aCons (e : Ev) (r : Ph → Ro → M (List D)) : Ph → Ro → M (List D) := fun Φ ρ => (e Φ ρ).bind fun d => (r Φ ρ).bind fun ds => M.ok (d :: ds)
def caNil : CA aNil where
  py := []
  chk := fun _ => true
  pl := true
  plOk := fun _ e he => by cases he
  len := fun _ Φ ρ S ds S' h => by cases h; rfl
  ok := fun L Φ X g q => PA.weak pa_nil fun σ H Q ⟨ρ, S, ι, w, e, f⟩ => f.now w .nil
def caCons {e : Ev} {r : Ph → Ro → M (List D)} (a : CE e) (b : CA r) : CA (aCons e r) where
  py := a.py :: b.py
  chk := fun L => a.chk L && b.chk L
  pl := b.pl
  plOk := fun h e he => by
    rcases List.mem_cons.mp he with rfl | he
    · exact a.pl
    · exact b.plOk h e he
  len := fun h Φ ρ S ds S' q => by
    obtain ⟨d, S1, e1, q⟩ := M.bind_inv q
    obtain ⟨es, S2, e2, q⟩ := M.bind_inv q
    cases q
    rw [List.length_cons, List.length_cons, b.len h Φ ρ S1 es _ e2]
  ok := fun L Φ X g q => by
    obtain ⟨q1, q2⟩ := ba q
    exact PA.weak (pa_cons (a.ok L Φ X g q1) (b.ok L Φ X g q2) (starEach_pl a.pl _ _)) fun σ H Q ⟨ρ, S, ι, w, e, f⟩ =>
      ⟨ρ, S, ι, w, e, Fin.bind f fun d S1 ι1 H1 v e1 w1 r1 f1 => ⟨ρ, S1, ι1, w1, e.mono e1, Fin.bind f1 fun ds S2 ι2 H2 vs e2 w2 r2 f2 => f2.now w2 (.cons (r1.mono e2) r2)⟩⟩

/-! ### displays -/
/-- new objects -/
theorem Fin.tupNew {K : PySem.W.Frag} {ι : Ix} {H : Hp} {S : Store} {Q : VK} {ds : List D} {vs : List V} (f : Fin K (RelD K) ι H Q (.ok (.tup ds) S)) (w : World K ι H S) (r : RelDs K ι H ds vs) (hz : vs.length ≤ sizeLine) : NewT H Q vs := fun p o hp _ hd =>
  f ι _ _ (.fresh hp) (w.fresh hp) (relD_tup.mpr ⟨p, vs, rfl, .inl ⟨o, upd_same, hd⟩, hz, r.mono (.fresh hp)⟩)
theorem Fin.lstNew {K : PySem.W.Frag} {ι : Ix} {H : Hp} {S : Store} {Q : VK} {ds : List D} {vs : List V} (f : Fin K (RelD K) ι H Q (.ok (.lst ds) S)) (w : World K ι H S) (r : RelDs K ι H ds vs) (hz : vs.length ≤ sizeLine) (p : Addr) (hp : H p = none) : Q (.ref p) (upd H p (.lst vs)) :=
  f ι _ _ (.fresh hp) (w.fresh hp) (relD_lst.mpr ⟨p, vs, rfl, upd_same, hz, w.notin hp, r.mono (.fresh hp)⟩)
theorem Fin.cellNew {K : PySem.W.Frag} {ι : Ix} {H : Hp} {S : Store} {Q : VK} {ds : List D} {vs : List V} (f : Fin K (RelD K) ι H Q (.ok (.ref S.length) (S ++ [.lst ds]))) (hb : D.bels S.length ds = true) (w : World K ι H S) (r : RelDs K ι H ds vs) (hz : vs.length ≤ sizeLine) (p : Addr) (hp : H p = none) : Q (.ref p) (upd H p (.lst vs)) :=
  f (ι.add p) _ _ (.cell hp) (w.cellNew hp hb ⟨vs, upd_same, hz, r.mono (.cell hp)⟩) (relD_ref.mpr ⟨p, rfl, by rw [← w.len]; show (ι.cs ++ [p])[ι.cs.length]? = some p; simp⟩)
/-- a new list: m tells whether it may be written -/
def mkLst (m : Bool) (ds : List D) : M D := fun S => if m then (if D.bels S.length ds then .ok (.ref S.length) (S ++ [.lst ds]) else .bad) else .ok (.lst ds) S
theorem Fin.mkNew {K : PySem.W.Frag} {ι : Ix} {H : Hp} {S : Store} {Q : VK} {m : Bool} {ds : List D} {vs : List V} (f : Fin K (RelD K) ι H Q (mkLst m ds S)) (w : World K ι H S) (r : RelDs K ι H ds vs) (hz : vs.length ≤ sizeLine) (p : Addr) (hp : H p = none) : Q (.ref p) (upd H p (.lst vs)) := by
  unfold mkLst at f
  split at f
  · split at f
    · rename_i hb
      exact f.cellNew hb w r hz p hp
    · exact f.elim
  · exact f.lstNew w r hz p hp
def szM (n : Nat) : M Unit := fun S => if n ≤ 16777216 then .ok () S else .bad
def eTup (r : Ph → Ro → M (List D)) (n : Nat) : Ev := fun Φ ρ => (r Φ ρ).bind fun ds => if ds.length ≤ 16777216 then M.ok (.tup ds) else M.bad
def cTup {r : Ph → Ro → M (List D)} (a : CA r) (k : Nat) (p : Pos) : CE (eTup r k) where
  py := .Tuple a.py k p
  chk := a.chk
  pl := rfl
  ok := fun L Φ X g q => PE.weak (pe_tupF (a.ok L Φ X g q)) fun σ H Q ⟨ρ, S, ι, w, e, f⟩ => ⟨ρ, S, ι, w, e, Fin.bind f fun ds S1 ι1 H1 vs e1 w1 r1 f1 => by
    by_cases hz : ds.length ≤ 16777216
    · rw [if_pos hz] at f1
      have hz' : vs.length ≤ sizeLine := by rw [r1.length, sizeLine_eq]; exact hz
      exact ⟨hz', f1.tupNew w1 r1 hz'⟩
    · rw [if_neg hz] at f1
      exact f1.elim⟩
def eLst (m : Bool) (r : Ph → Ro → M (List D)) : Ev := fun Φ ρ => (r Φ ρ).bind fun ds => if ds.length ≤ 16777216 then mkLst m ds else M.bad
def cLst (m : Bool) {r : Ph → Ro → M (List D)} (a : CA r) (p : Pos) : CE (eLst m r) where
  py := .List a.py p
  chk := a.chk
  pl := rfl
  ok := fun L Φ X g q => PE.weak (pe_lst (a.ok L Φ X g q)) fun σ H Q ⟨ρ, S, ι, w, e, f⟩ => ⟨ρ, S, ι, w, e, Fin.bind f fun ds S1 ι1 H1 vs e1 w1 r1 f1 => by
    by_cases hz : ds.length ≤ 16777216
    · rw [if_pos hz] at f1
      have hz' : vs.length ≤ sizeLine := by rw [r1.length, sizeLine_eq]; exact hz
      exact ⟨hz', fun p hp => f1.mkNew w1 r1 hz' p hp⟩
    · rw [if_neg hz] at f1
      exact f1.elim⟩

/-! ### operators -/
def eBin (op : D → D → M D) (a b : Ev) : Ev := fun Φ ρ => (a Φ ρ).bind fun x => (b Φ ρ).bind fun y => op x y
def eUn (op : D → M D) (a : Ev) : Ev := fun Φ ρ => (a Φ ρ).bind op
theorem bin_weak {K : PySem.W.Frag} {op : D → D → M D} {a b : Ro → M D} : ∀ σ H Q, tE K (fun ρ => (a ρ).bind fun x => (b ρ).bind fun y => op x y) σ H Q → tOp (rD2 K op) (tE K a) (tE K b) σ H Q :=
  fun σ H Q ⟨ρ, S, ι, w, e, f⟩ => ⟨ρ, S, ι, w, e, Fin.bind f fun x S1 ι1 H1 v e1 w1 r1 f1 => ⟨ρ, S1, ι1, w1, e.mono e1, Fin.bind f1 fun y S2 ι2 H2 u e2 w2 r2 f2 => ⟨x, y, S2, ι2, w2, r1.mono e2, r2, f2⟩⟩⟩
theorem un_weak {K : PySem.W.Frag} {op : D → M D} {a : Ro → M D} : ∀ σ H Q, tE K (fun ρ => (a ρ).bind op) σ H Q → tUn (rD1 K op) (tE K a) σ H Q :=
  fun σ H Q ⟨ρ, S, ι, w, e, f⟩ => ⟨ρ, S, ι, w, e, Fin.bind f fun x S1 ι1 H1 v e1 w1 r1 f1 => ⟨x, S1, ι1, w1, r1, f1⟩⟩
/-- an operator: its rule for each context -/
structure COp (f : Value → Value → Sem Value) (op : D → D → M D) : Prop where
  ok : ∀ (X : Cx), X.calm = true → X.A.units + 100 < cLine → OpR X f (rD2 X.K op)
def cBin {o : Operator} {op : D → D → M D} {a b : Ev} (h : COp (binaryOp o) op) (x : CE a) (y : CE b) (p : Pos) : CE (eBin op a b) where
  py := .BinOp x.py o y.py p
  chk := fun L => x.chk L && y.chk L
  pl := rfl
  ok := fun L Φ X g q => by
    obtain ⟨q1, q2⟩ := ba q
    exact PE.weak (pe_op (h.ok X g.calm g.hu) (x.ok L Φ X g q1) (y.ok L Φ X g q2)) bin_weak
def cCmp {o : CmpOp} {op : D → D → M D} {a b : Ev} (h : COp (compareOp o) op) (x : CE a) (y : CE b) (p : Pos) : CE (eBin op a b) where
  py := .Compare x.py [o] [y.py] p
  chk := fun L => x.chk L && y.chk L
  pl := rfl
  ok := fun L Φ X g q => by
    obtain ⟨q1, q2⟩ := ba q
    exact PE.weak (pe_cmpR (h.ok X g.calm g.hu) (x.ok L Φ X g q1) (y.ok L Φ X g q2) (behind_pl y.pl _)) bin_weak
def blM (d : D) : M Bool := fun S => match d with
  | .bl b => .ok b S
  | _ => .bad
def tCmp (op : D → D → M D) (a b : Ev) : Tv := fun Φ ρ => (a Φ ρ).bind fun x => (b Φ ρ).bind fun y => (op x y).bind blM
theorem blM_ok {K : PySem.W.Frag} {ι : Ix} {H : Hp} {S : Store} {Q : Bool → Hp → Prop} {d : D} {v : V} (w : World K ι H S) (r : RelD K ι H d v) (f : Fin K EqB ι H Q (blM d S)) : ∃ k, v = .bl k ∧ Q k H := by
  cases d with
  | bl b => exact ⟨b, relD_bl.mp r, f.now w rfl⟩
  | _ => exact f.elim
def ctCmp {o : CmpOp} {op : D → D → M D} {a b : Ev} (h : COp (compareOp o) op) (x : CE a) (y : CE b) (p : Pos) : CT (tCmp op a b) where
  py := .Compare x.py [o] [y.py] p
  chk := fun L => x.chk L && y.chk L
  ok := fun L Φ X g q => by
    obtain ⟨q1, q2⟩ := ba q
    exact PT.weak (pt_cmpR (h.ok X g.calm g.hu) (x.ok L Φ X g q1) (y.ok L Φ X g q2) (behind_pl y.pl _)) fun σ H Q ⟨ρ, S, ι, w, e, f⟩ =>
      ⟨ρ, S, ι, w, e, Fin.bind f fun x S1 ι1 H1 v e1 w1 r1 f1 => ⟨ρ, S1, ι1, w1, e.mono e1, Fin.bind f1 fun y S2 ι2 H2 u e2 w2 r2 f2 => ⟨x, y, S2, ι2, w2, r1.mono e2, r2, Fin.bind f2 fun d S3 ι3 H3 vd e3 w3 r3 f3 => blM_ok w3 r3 f3⟩⟩⟩
/-! a < b < c -/
def eChain (op op' : D → D → M D) (a b c : Ev) : Ev := fun Φ ρ => (a Φ ρ).bind fun x => (b Φ ρ).bind fun y => (op x y).bind fun z => (blM z).bind fun k => if k then (c Φ ρ).bind fun u => op' y u else M.ok (.bl false)
theorem Fin.blK {K : PySem.W.Frag} {ι : Ix} {H : Hp} {S : Store} {γ δ : Type} {R2 : Ix → Hp → γ → δ → Prop} {Q : δ → Hp → Prop} {d : D} {v : V} {f : Bool → M γ} (w : World K ι H S) (r : RelD K ι H d v) (h : Fin K R2 ι H Q ((blM d).bind f S)) : ∃ k, v = .bl k ∧ Fin K R2 ι H Q (f k S) := by
  cases d with
  | bl b => exact ⟨b, relD_bl.mp r, h⟩
  | _ => exact h.elim
def cChain {o o' : CmpOp} {op op' : D → D → M D} {a b c : Ev} (h : COp (compareOp o) op) (h' : COp (compareOp o') op') (x : CE a) (y : CE b) (z : CE c) (p : Pos) : CE (eChain op op' a b c) where
  py := .Compare x.py [o, o'] [y.py, z.py] p
  chk := fun L => x.chk L && (y.chk L && z.chk L)
  pl := rfl
  ok := fun L Φ X g q => by
    obtain ⟨q1, q2⟩ := ba q
    obtain ⟨q2, q3⟩ := ba q2
    refine PE.weak (pe_chain (h.ok X g.calm g.hu) (h'.ok X g.calm g.hu) (x.ok L Φ X g q1) (y.ok L Φ X g q2) (z.ok L Φ X g q3) (behind_pl z.pl _)) fun σ H Q ⟨ρ, S, ι, w, e, f⟩ =>
      ⟨ρ, S, ι, w, e, Fin.bind f fun x S1 ι1 H1 v e1 w1 r1 f1 => ⟨ρ, S1, ι1, w1, e.mono e1, Fin.bind f1 fun y S2 ι2 H2 u e2 w2 r2 f2 => ⟨x, y, S2, ι2, w2, r1.mono e2, r2, Fin.bind f2 fun d S3 ι3 H3 vd e3 w3 r3 f3 => ?_⟩⟩⟩
    obtain ⟨k, hk, f4⟩ := Fin.blK w3 r3 f3
    refine ⟨k, hk, ?_⟩
    cases k with
    | true => exact ⟨ρ, S3, ι3, w3, (e.mono e1).mono (e2.trans e3), Fin.bind f4 fun d S5 ι5 H5 u e5 w5 r5 f5 => ⟨y, d, S5, ι5, w5, r2.mono (e3.trans e5), r5, f5⟩⟩
    | false => exact f4.now w3 (relD_bl.mpr rfl)
end G
end

section
set_option Elab.async false
set_option linter.all false
set_option maxRecDepth 100000
namespace G
open PySem PySem.Spec PyProof.Rows L2

/-! ### and, or, not, if else -/
structure CBl (o : BoolOp) (ev : Ev) where
  vs : List Expr
  chk : Lx → Bool
  ne : ∃ b r, vs = b :: r
  ok : ∀ (L : Lx) (Φ : Ph) (X : Cx), Gd L Φ X → chk L = true → ∀ pos, PE X (.BoolOp o vs pos) (tE X.K (ev Φ))
def CBl.one {o : BoolOp} {a : Ev} (x : CE a) : CBl o a where
  vs := [x.py]
  chk := x.chk
  ne := ⟨_, _, rfl⟩
  ok := fun L Φ X g q pos => pe_one (x.ok L Φ X g q)
def eAnd (a b : Ev) : Ev := fun Φ ρ => (a Φ ρ).bind fun x => (blM x).bind fun c => if c then b Φ ρ else M.ok (.bl false)
def eOr (a b : Ev) : Ev := fun Φ ρ => (a Φ ρ).bind fun x => (blM x).bind fun c => if c then M.ok (.bl true) else b Φ ρ
def CBl.and {a b : Ev} (x : CE a) (y : CBl .And b) : CBl .And (eAnd a b) where
  vs := x.py :: y.vs
  chk := fun L => x.chk L && y.chk L
  ne := ⟨_, _, rfl⟩
  ok := fun L Φ X g q pos => by
    obtain ⟨q1, q2⟩ := ba q
    obtain ⟨b', r', e'⟩ := y.ne
    have h := y.ok L Φ X g q2 pos
    rw [e'] at h ⊢
    refine PE.weak (pe_and (x.ok L Φ X g q1) h) fun σ H Q ⟨ρ, S, ι, w, e, f⟩ => ⟨ρ, S, ι, w, e, Fin.bind f fun x S1 ι1 H1 v e1 w1 r1 f1 => ?_⟩
    obtain ⟨k, hk, f2⟩ := Fin.blK w1 r1 f1
    refine ⟨k, hk, ?_⟩
    cases k with
    | true => exact ⟨ρ, S1, ι1, w1, e.mono e1, f2⟩
    | false => exact f2.now w1 (relD_bl.mpr rfl)
def CBl.or {a b : Ev} (x : CE a) (y : CBl .Or b) : CBl .Or (eOr a b) where
  vs := x.py :: y.vs
  chk := fun L => x.chk L && y.chk L
  ne := ⟨_, _, rfl⟩
  ok := fun L Φ X g q pos => by
    obtain ⟨q1, q2⟩ := ba q
    obtain ⟨b', r', e'⟩ := y.ne
    have h := y.ok L Φ X g q2 pos
    rw [e'] at h ⊢
    refine PE.weak (pe_or (x.ok L Φ X g q1) h) fun σ H Q ⟨ρ, S, ι, w, e, f⟩ => ⟨ρ, S, ι, w, e, Fin.bind f fun x S1 ι1 H1 v e1 w1 r1 f1 => ?_⟩
    obtain ⟨k, hk, f2⟩ := Fin.blK w1 r1 f1
    refine ⟨k, hk, ?_⟩
    cases k with
    | true => exact f2.now w1 (relD_bl.mpr rfl)
    | false => exact ⟨ρ, S1, ι1, w1, e.mono e1, f2⟩
def cBo {o : BoolOp} {a : Ev} (x : CBl o a) (p : Pos) : CE a where
  py := .BoolOp o x.vs p
  chk := x.chk
  pl := rfl
  ok := fun L Φ X g q => x.ok L Φ X g q p
structure CTl (o : BoolOp) (tv : Tv) where
  vs : List Expr
  chk : Lx → Bool
  ne : ∃ b r, vs = b :: r
  ok : ∀ (L : Lx) (Φ : Ph) (X : Cx), Gd L Φ X → chk L = true → ∀ pos, PW X (.BoolOp o vs pos) (tT X.K (tv Φ))
def CTl.one1 {a : Tv} (x : CT a) : CTl .And a where
  vs := [x.py]
  chk := x.chk
  ne := ⟨_, _, rfl⟩
  ok := fun L Φ X g q pos => pw_and1 (x.ok L Φ X g q)
def CTl.one2 {a : Tv} (x : CT a) : CTl .Or a where
  vs := [x.py]
  chk := x.chk
  ne := ⟨_, _, rfl⟩
  ok := fun L Φ X g q pos => pw_or1 (x.ok L Φ X g q)
def vAnd (a b : Tv) : Tv := fun Φ ρ => (a Φ ρ).bind fun c => if c then b Φ ρ else M.ok false
def vOr (a b : Tv) : Tv := fun Φ ρ => (a Φ ρ).bind fun c => if c then M.ok true else b Φ ρ
def vNot (a : Tv) : Tv := fun Φ ρ => (a Φ ρ).bind fun c => M.ok (!c)
def CTl.and {a b : Tv} (x : CT a) (y : CTl .And b) : CTl .And (vAnd a b) where
  vs := x.py :: y.vs
  chk := fun L => x.chk L && y.chk L
  ne := ⟨_, _, rfl⟩
  ok := fun L Φ X g q pos => by
    obtain ⟨q1, q2⟩ := ba q
    obtain ⟨b', r', e'⟩ := y.ne
    have h := y.ok L Φ X g q2 pos
    rw [e'] at h ⊢
    refine PW.weak (pw_and (x.ok L Φ X g q1) h) fun σ H Q ⟨ρ, S, ι, w, e, f⟩ => ⟨ρ, S, ι, w, e, Fin.bind f fun k S1 ι1 H1 v e1 w1 r1 f1 => ?_⟩
    cases (show k = v from r1)
    cases k with
    | true => exact ⟨ρ, S1, ι1, w1, e.mono e1, f1⟩
    | false => exact f1.now w1 rfl
def CTl.or {a b : Tv} (x : CT a) (y : CTl .Or b) : CTl .Or (vOr a b) where
  vs := x.py :: y.vs
  chk := fun L => x.chk L && y.chk L
  ne := ⟨_, _, rfl⟩
  ok := fun L Φ X g q pos => by
    obtain ⟨q1, q2⟩ := ba q
    obtain ⟨b', r', e'⟩ := y.ne
    have h := y.ok L Φ X g q2 pos
    rw [e'] at h ⊢
    refine PW.weak (pw_or (x.ok L Φ X g q1) h) fun σ H Q ⟨ρ, S, ι, w, e, f⟩ => ⟨ρ, S, ι, w, e, Fin.bind f fun k S1 ι1 H1 v e1 w1 r1 f1 => ?_⟩
    cases (show k = v from r1)
    cases k with
    | true => exact f1.now w1 rfl
    | false => exact ⟨ρ, S1, ι1, w1, e.mono e1, f1⟩
def ctBo {o : BoolOp} {a : Tv} (x : CTl o a) (p : Pos) : CT a where
  py := .BoolOp o x.vs p
  chk := x.chk
  ok := fun L Φ X g q => (x.ok L Φ X g q p).pt
def ctNot {a : Tv} (x : CT a) (p : Pos) : CT (vNot a) where
  py := .UnaryOp .Not x.py p
  chk := x.chk
  ok := fun L Φ X g q => PT.weak (pt_not (x.ok L Φ X g q)) fun σ H Q ⟨ρ, S, ι, w, e, f⟩ => ⟨ρ, S, ι, w, e, Fin.bind f fun k S1 ι1 H1 v e1 w1 r1 f1 => by
    cases (show k = v from r1)
    exact f1.now w1 rfl⟩
theorem pe_notTr {X : Cx} {a : Expr} {ta : TE} {pos : Pos} (ha : PE X a ta) : PE X (.UnaryOp .Not a pos) (fun σ H Q => ta σ H fun x H1 => ∃ k, TruV X.K x H1 k ∧ Q (.bl (!k)) H1) := by
  refine ⟨fun pins s σ H Q I h => ?_⟩
  refine UnaryOp_ (thn (ha.run pins s σ H _ I h) fun v s1 ⟨x, H1, I1, r1, k, tr, q1⟩ => ?_)
  exact not_of (thn (tru_ok pins s1 σ H1 x v (fun c H2 => c = k ∧ H2 = H1) I1 r1 ⟨k, tr, rfl, rfl⟩) fun c s2 ⟨H2, I2, e1, e2⟩ => by
    subst e1 e2
    exact ⟨.bl (!c), H2, I2, rfl, q1⟩)
theorem Fin.truK {K : PySem.W.Frag} {ι : Ix} {H : Hp} {S : Store} {γ δ : Type} {R2 : Ix → Hp → γ → δ → Prop} {Q : δ → Hp → Prop} {d : D} {v : V} {f : Bool → M γ} (w : World K ι H S) (r : RelD K ι H d v) (h : Fin K R2 ι H Q ((truM d).bind f S)) : ∃ k, TruV K v H k ∧ Fin K R2 ι H Q (f k S) := by
  unfold M.bind truM at h
  cases ht : truth d S with
  | some b => rw [ht] at h; exact ⟨b, truth_ok w r ht, h⟩
  | none => rw [ht] at h; exact h.elim
def eNot (a : Ev) : Ev := fun Φ ρ => (a Φ ρ).bind fun x => (truM x).bind fun c => M.ok (.bl (!c))
def cNot {a : Ev} (x : CE a) (p : Pos) : CE (eNot a) where
  py := .UnaryOp .Not x.py p
  chk := x.chk
  pl := rfl
  ok := fun L Φ X g q => PE.weak (pe_notTr (x.ok L Φ X g q)) fun σ H Q ⟨ρ, S, ι, w, e, f⟩ => ⟨ρ, S, ι, w, e, Fin.bind f fun d S1 ι1 H1 v e1 w1 r1 f1 =>
    let ⟨k, hk, f2⟩ := Fin.truK w1 r1 f1
    ⟨k, hk, f2.now w1 (relD_bl.mpr rfl)⟩⟩
def eIf (t : Tv) (a b : Ev) : Ev := fun Φ ρ => (t Φ ρ).bind fun c => if c then a Φ ρ else b Φ ρ
def cIf {t : Tv} {a b : Ev} (c : CT t) (x : CE a) (y : CE b) (p : Pos) : CE (eIf t a b) where
  py := .IfExp c.py x.py y.py p
  chk := fun L => c.chk L && (x.chk L && y.chk L)
  pl := rfl
  ok := fun L Φ X g q => by
    obtain ⟨q1, q2⟩ := ba q
    obtain ⟨q2, q3⟩ := ba q2
    refine PE.weak (pe_ifExp (c.ok L Φ X g q1) (x.ok L Φ X g q2) (y.ok L Φ X g q3)) fun σ H Q ⟨ρ, S, ι, w, e, f⟩ => ⟨ρ, S, ι, w, e, Fin.bind f fun k S1 ι1 H1 v e1 w1 r1 f1 => ?_⟩
    cases (show k = v from r1)
    cases k with
    | true => exact ⟨ρ, S1, ι1, w1, e.mono e1, f1⟩
    | false => exact ⟨ρ, S1, ι1, w1, e.mono e1, f1⟩
/-! chains as tests -/
def vChain (op op' : D → D → M D) (a b c : Ev) : Tv := fun Φ ρ => (eChain op op' a b c Φ ρ).bind blM
def ctChain {o o' : CmpOp} {op op' : D → D → M D} {a b c : Ev} (h : COp (compareOp o) op) (h' : COp (compareOp o') op') (x : CE a) (y : CE b) (z : CE c) (p : Pos) : CT (vChain op op' a b c) where
  py := .Compare x.py [o, o'] [y.py, z.py] p
  chk := fun L => x.chk L && (y.chk L && z.chk L)
  ok := fun L Φ X g q => by
    obtain ⟨q1, q2⟩ := ba q
    obtain ⟨q2, q3⟩ := ba q2
    refine PT.weak (pt_chain (h.ok X g.calm g.hu) (h'.ok X g.calm g.hu) (x.ok L Φ X g q1) (y.ok L Φ X g q2) (z.ok L Φ X g q3) (behind_pl z.pl _)) fun σ H Q ⟨ρ, S, ι, w, e, f⟩ => ?_
    have f : Fin X.K EqB ι H Q (((a Φ ρ).bind fun x => (b Φ ρ).bind fun y => (op x y).bind fun z => (blM z).bind fun k => (if k then (c Φ ρ).bind fun u => op' y u else M.ok (.bl false)).bind blM) S) := by
      have e1 : ∀ (m : M D) (f : D → M D) (g : D → M Bool), (M.bind (M.bind m f) g) = M.bind m fun x => M.bind (f x) g := by
        intro m f g; funext S; unfold M.bind; cases m S <;> rfl
      have e2 : ∀ (m : M Bool) (f : Bool → M D) (g : D → M Bool), (M.bind (M.bind m f) g) = M.bind m fun x => M.bind (f x) g := by
        intro m f g; funext S; unfold M.bind; cases m S <;> rfl
      have f2 : Fin X.K EqB ι H Q ((((a Φ ρ).bind fun x => (b Φ ρ).bind fun y => (op x y).bind fun z => (blM z).bind fun k => if k then (c Φ ρ).bind fun u => op' y u else M.ok (.bl false)).bind blM) S) := f
      simp only [e1, e2] at f2
      exact f2
    refine ⟨ρ, S, ι, w, e, Fin.bind f fun x S1 ι1 H1 v e1 w1 r1 f1 => ⟨ρ, S1, ι1, w1, e.mono e1, Fin.bind f1 fun y S2 ι2 H2 u e2 w2 r2 f2 => ⟨x, y, S2, ι2, w2, r1.mono e2, r2, Fin.bind f2 fun d S3 ι3 H3 vd e3 w3 r3 f3 => ?_⟩⟩⟩
    obtain ⟨k, hk, f4⟩ := Fin.blK w3 r3 f3
    refine ⟨k, hk, ?_⟩
    cases k with
    | true =>
      have f5 : Fin X.K EqB ι3 H3 Q (((c Φ ρ).bind fun u => (op' y u).bind blM) S3) := by
        have e1 : ∀ (m : M D) (f : D → M D) (g : D → M Bool), (M.bind (M.bind m f) g) = M.bind m fun x => M.bind (f x) g := by
          intro m f g; funext S; unfold M.bind; cases m S <;> rfl
        rw [← e1]; exact f4
      exact ⟨ρ, S3, ι3, w3, (e.mono e1).mono (e2.trans e3), Fin.bind f5 fun d S5 ι5 H5 u e5 w5 r5 f6 => ⟨y, d, S5, ι5, w5, r2.mono (e3.trans e5), r5, Fin.bind f6 fun z S6 ι6 H6 vz e6 w6 r6 f7 => blM_ok w6 r6 f7⟩⟩
    | false => exact ⟨false, rfl, f4.now w3 rfl⟩

/-! ### operators on values -/
theorem OpR.imp {X : Cx} {f : Value → Value → Sem Value} {r r' : R2} (h : OpR X f r) (q : ∀ x y H Q, r' x y H Q → r x y H Q) : OpR X f r' :=
  fun pins s σ H x y v u Q I rx ry z => h pins s σ H x y v u Q I rx ry (q _ _ _ _ z)
/-- by the rule for each pair -/
theorem COp.of {f : Value → Value → Sem Value} {op : D → D → M D} (h : ∀ (X : Cx), X.calm = true → X.A.units + 100 < cLine → ∀ (x y : D) (S : Store), ∃ r : R2, OpR X f r ∧
    ∀ (ι : Ix) (H : Hp) (vx vy : V) (Q : VK), World X.K ι H S → RelD X.K ι H x vx → RelD X.K ι H y vy → Fin X.K (RelD X.K) ι H Q (op x y S) → r vx vy H Q) : COp f op :=
  ⟨fun X hc hu pins s σ H vx vy v u Q I rx ry ⟨x, y, S, ι, w, r1, r2, f⟩ => by
    obtain ⟨r, hr, q⟩ := h X hc hu x y S
    exact hr pins s σ H vx vy v u Q I rx ry (q ι H vx vy Q w r1 r2 f)⟩
def rNo : R2 := fun _ _ _ _ => False
theorem opNo {X : Cx} {f : Value → Value → Sem Value} : OpR X f rNo := fun _ _ _ _ _ _ _ _ _ _ _ _ h => h.elim
/-- a + b -/
def oAdd (x y : D) : M D := fun S => match x, y with
  | .int i, .int j => .ok (.int (i + j)) S
  | .tup xs, .tup ys => if xs.length + ys.length ≤ 16777216 then .ok (.tup (xs ++ ys)) S else .bad
  | .str s, .str t => if s.length + t.length ≤ 16777216 then .ok (.str (s ++ t)) S else .bad
  | x, y => match lstTr x S, lstTr y S with
    | some xs, some ys => if xs.length + ys.length ≤ 16777216 then .ok (.lst (xs ++ ys)) S else .bad
    | _, _ => .bad
theorem op_addAll {X : Cx} : OpR X (binaryOp .Add) (fun x y H Q => rI0 (fun i j => .int (i + j)) x y H Q ∨ rCatF X.K x y H Q ∨ rCat x y H Q ∨ ∃ i j, x = .str i ∧ y = .str j ∧ i.length + j.length ≤ sizeLine ∧ Q (.str (i ++ j)) H) :=
  op_add.or (op_catF.or (op_cat.or op_add_str))
theorem fin_lst {K : PySem.W.Frag} {ι : Ix} {H : Hp} {S : Store} {x y : D} {vx vy : V} {Q : VK} (w : World K ι H S) (r1 : RelD K ι H x vx) (r2 : RelD K ι H y vy)
    (f : Fin K (RelD K) ι H Q (match lstTr x S, lstTr y S with | some xs, some ys => if xs.length + ys.length ≤ 16777216 then .ok (.lst (xs ++ ys)) S else .bad | _, _ => .bad)) : rCat vx vy H Q := by
  cases e1 : lstTr x S with
  | none => rw [e1] at f; exact f.elim
  | some xs =>
    cases e2 : lstTr y S with
    | none => rw [e1, e2] at f; exact f.elim
    | some ys =>
      rw [e1, e2] at f
      by_cases hz : xs.length + ys.length ≤ 16777216
      · have f : Fin K (RelD K) ι H Q (if xs.length + ys.length ≤ 16777216 then .ok (.lst (xs ++ ys)) S else .bad) := f
        rw [if_pos hz] at f
        obtain ⟨a, vs, h1, h2, h3, h4⟩ := lstTr_ok w r1 e1
        obtain ⟨b, us, k1, k2, k3, k4⟩ := lstTr_ok w r2 e2
        have hz' : vs.length + us.length ≤ sizeLine := by rw [h4.length, k4.length, sizeLine_eq]; exact hz
        exact ⟨a, b, vs, us, h1, k1, h2, k2, hz', fun p hp => f.lstNew w (h4.append k4) (by rw [List.length_append]; exact hz') p hp⟩
      · have f : Fin K (RelD K) ι H Q (if xs.length + ys.length ≤ 16777216 then .ok (.lst (xs ++ ys)) S else .bad) := f
        rw [if_neg hz] at f
        exact f.elim
theorem co_add : COp (binaryOp .Add) oAdd := ⟨fun X _ _ => OpR.imp op_addAll fun vx vy H Q ⟨x, y, S, ι, w, r1, r2, f⟩ => by
  unfold oAdd at f
  split at f
  · exact .inl ⟨_, _, relD_int.mp r1, relD_int.mp r2, f.now w (relD_int.mpr rfl)⟩
  · rename_i xs ys
    obtain ⟨a, vs, h1, h2, h3, h4⟩ := relD_tup.mp r1
    obtain ⟨b, us, k1, k2, k3, k4⟩ := relD_tup.mp r2
    by_cases hz : xs.length + ys.length ≤ 16777216
    · rw [if_pos hz] at f
      have hz' : vs.length + us.length ≤ sizeLine := by rw [h4.length, k4.length, sizeLine_eq]; exact hz
      refine .inr (.inl ⟨a, b, vs, us, h1, k1, h2.sq, k2.sq, hz', fun e => ?_, fun _ e => ?_, fun _ _ => ?_⟩)
      · have l := h4.length
        rw [e] at l
        have e2 : xs = [] := List.length_eq_zero_iff.mp l.symm
        rw [e2, List.nil_append] at f
        rw [k1] at r2
        exact f.now w r2
      · have l := k4.length
        rw [e] at l
        have e2 : ys = [] := List.length_eq_zero_iff.mp l.symm
        rw [e2, List.append_nil] at f
        rw [h1] at r1
        exact f.now w r1
      · exact f.tupNew w (h4.append k4) (by rw [List.length_append]; exact hz')
    · rw [if_neg hz] at f
      exact f.elim
  · rename_i s t
    by_cases hz : s.length + t.length ≤ 16777216
    · rw [if_pos hz] at f
      exact .inr (.inr (.inr ⟨s, t, relD_str.mp r1, relD_str.mp r2, by rw [sizeLine_eq]; exact hz, f.now w (relD_str.mpr rfl)⟩))
    · rw [if_neg hz] at f
      exact f.elim
  · exact .inr (.inr (.inl (fin_lst w r1 r2 f)))⟩
def oInt (C : Int → Int → Bool) (g : Int → Int → Int) (x y : D) : M D := fun S => match x, y with
  | .int i, .int j => if C i j then .ok (.int (g i j)) S else .bad
  | _, _ => .bad
def oIntB (g : Int → Int → Bool) (x y : D) : M D := fun S => match x, y with
  | .int i, .int j => .ok (.bl (g i j)) S
  | _, _ => .bad
theorem co_int {f : Value → Value → Sem Value} {C : Int → Int → Prop} {Cb : Int → Int → Bool} {g : Int → Int → Int} (h : ∀ X, OpR X f (rI C fun i j => .int (g i j))) (hC : ∀ i j, Cb i j = true → C i j) : COp f (oInt Cb g) :=
  ⟨fun X _ _ => OpR.imp (h X) fun vx vy H Q ⟨x, y, S, ι, w, r1, r2, f⟩ => by
    unfold oInt at f
    split at f
    · rename_i i j
      by_cases hc : Cb i j = true
      · rw [if_pos hc] at f
        exact ⟨i, j, relD_int.mp r1, relD_int.mp r2, hC i j hc, f.now w (relD_int.mpr rfl)⟩
      · rw [if_neg hc] at f
        exact f.elim
    · exact f.elim⟩
theorem co_intB {f : Value → Value → Sem Value} {g : Int → Int → Bool} (h : ∀ X, OpR X f (rI0 fun i j => .bl (g i j))) : COp f (oIntB g) :=
  ⟨fun X _ _ => OpR.imp (h X) fun vx vy H Q ⟨x, y, S, ι, w, r1, r2, f⟩ => by
    unfold oIntB at f
    split at f
    · exact ⟨_, _, relD_int.mp r1, relD_int.mp r2, f.now w (relD_bl.mpr rfl)⟩
    · exact f.elim⟩
def oSub : D → D → M D := oInt (fun _ _ => true) fun i j => i - j
theorem co_sub : COp (binaryOp .Sub) oSub := co_int (C := fun _ _ => True) (fun X => OpR.imp op_sub fun x y H Q ⟨i, j, h1, h2, _, q⟩ => ⟨i, j, h1, h2, q⟩) fun _ _ _ => trivial
def cMulB (i j : Int) : Bool := (decide (-(2 ^ 64) < i) && decide (i < 2 ^ 64)) || (decide (-(2 ^ 64) < j) && decide (j < 2 ^ 64))
theorem cMulB_ok (i j : Int) (h : cMulB i j = true) : CMul i j := by
  unfold cMulB at h
  simp only [Bool.or_eq_true, Bool.and_eq_true, decide_eq_true_eq] at h
  exact h
/-- a * b; a list that often -/
def oMul (x y : D) : M D := fun S => match x, y with
  | .int i, .int j => if cMulB i j then .ok (.int (i * j)) S else .bad
  | x, .int k => match lstTr x S with
    | some xs => if -(2 ^ 63) ≤ k ∧ k < 2 ^ 63 ∧ xs.length * k.toNat ≤ 16777216 then .ok (.lst (List.replicate k.toNat xs).flatten) S else .bad
    | none => .bad
  | _, _ => .bad
theorem RelDs.rep {K : PySem.W.Frag} {ι : Ix} {H : Hp} {ds : List D} {vs : List V} (h : RelDs K ι H ds vs) : ∀ k : Nat, RelDs K ι H (List.replicate k ds).flatten (List.replicate k vs).flatten
  | 0 => .nil
  | k + 1 => by
    rw [List.replicate_succ, List.replicate_succ, List.flatten_cons, List.flatten_cons]
    exact h.append (RelDs.rep h k)
theorem len_rep {α : Type} (xs : List α) (k : Nat) : (List.replicate k xs).flatten.length = xs.length * k := by
  induction k with
  | zero => rfl
  | succ k ih => rw [List.replicate_succ, List.flatten_cons, List.length_append, ih, Nat.mul_succ, Nat.add_comm]
theorem co_mul : COp (binaryOp .Mult) oMul := ⟨fun X _ _ => OpR.imp (op_mul.or op_rep) fun vx vy H Q ⟨x, y, S, ι, w, r1, r2, f⟩ => by
  unfold oMul at f
  split at f
  · rename_i i j
    by_cases hc : cMulB i j = true
    · rw [if_pos hc] at f
      exact .inl ⟨i, j, relD_int.mp r1, relD_int.mp r2, cMulB_ok i j hc, f.now w (relD_int.mpr rfl)⟩
    · rw [if_neg hc] at f
      exact f.elim
  · rename_i k _
    cases e1 : lstTr x S with
    | none => rw [e1] at f; exact f.elim
    | some xs =>
      rw [e1] at f
      by_cases hz : -(2 ^ 63) ≤ k ∧ k < 2 ^ 63 ∧ xs.length * k.toNat ≤ 16777216
      · have f : Fin X.K (RelD X.K) ι H Q (if -(2 ^ 63) ≤ k ∧ k < 2 ^ 63 ∧ xs.length * k.toNat ≤ 16777216 then .ok (.lst (List.replicate k.toNat xs).flatten) S else .bad) := f
        rw [if_pos hz] at f
        obtain ⟨a, vs, h1, h2, h3, h4⟩ := lstTr_ok w r1 e1
        have hz' : vs.length * k.toNat ≤ sizeLine := by rw [h4.length, sizeLine_eq]; exact hz.2.2
        exact .inr ⟨a, k, vs, h1, relD_int.mp r2, h2, hz.1, hz.2.1, hz', fun p hp => f.lstNew w (h4.rep _) (by rw [len_rep]; exact hz') p hp⟩
      · have f : Fin X.K (RelD X.K) ι H Q (if -(2 ^ 63) ≤ k ∧ k < 2 ^ 63 ∧ xs.length * k.toNat ≤ 16777216 then .ok (.lst (List.replicate k.toNat xs).flatten) S else .bad) := f
        rw [if_neg hz] at f
        exact f.elim
  · exact f.elim⟩
def oFdiv : D → D → M D := oInt (fun _ j => decide (0 < j) && decide (j < 1073741824)) fun i j => i / j
theorem co_fdiv : COp (binaryOp .FloorDiv) oFdiv := co_int (C := CDiv) (fun X => op_fdiv) fun i j h => by
  simp only [Bool.and_eq_true, decide_eq_true_eq] at h
  exact h
def oMod : D → D → M D := oInt (fun _ j => decide (0 < j)) fun i j => i % j
theorem co_mod : COp (binaryOp .Mod) oMod := co_int (C := fun _ j => 0 < j) (fun X => op_mod) fun i j h => of_decide_eq_true h
def oPow : D → D → M D := oInt (fun i j => decide (0 ≤ j) && (decide (j ≤ 1000000) && decide (i.natAbs < 2 ^ 64))) fun i j => i ^ j.toNat
theorem co_pow : COp (binaryOp .Pow) oPow := co_int (C := CPow) (fun X => op_pow) fun i j h => by
  simp only [Bool.and_eq_true, decide_eq_true_eq] at h
  exact h
def oLtI : D → D → M D := oIntB fun i j => decide (i < j)
def oLeI : D → D → M D := oIntB fun i j => decide (i ≤ j)
def oGtI : D → D → M D := oIntB fun i j => decide (j < i)
def oGeI : D → D → M D := oIntB fun i j => decide (j ≤ i)
theorem co_ltI : COp (compareOp .Lt) oLtI := co_intB fun X => op_lt
theorem co_leI : COp (compareOp .LtE) oLeI := co_intB fun X => op_le
theorem co_gtI : COp (compareOp .Gt) oGtI := co_intB fun X => op_gt
theorem co_geI : COp (compareOp .GtE) oGeI := co_intB fun X => op_ge
def uNeg (x : D) : M D := fun S => match x with
  | .int i => .ok (.int (-i)) S
  | _ => .bad
def cNeg {a : Ev} (x : CE a) (p : Pos) : CE (eUn uNeg a) where
  py := .UnaryOp .USub x.py p
  chk := x.chk
  pl := rfl
  ok := fun L Φ X g q => PE.weak (pe_un un_neg (x.ok L Φ X g q)) fun σ H Q ⟨ρ, S, ι, w, e, f⟩ => ⟨ρ, S, ι, w, e, Fin.bind f fun d S1 ι1 H1 v e1 w1 r1 f1 => by
    unfold uNeg at f1
    split at f1
    · exact ⟨_, relD_int.mp r1, f1.now w1 (relD_int.mpr rfl)⟩
    · exact f1.elim⟩
/-! is, is not: None and the bools -/
def D.isNon : D → Bool
  | .non => true
  | _ => false
def oIs (x y : D) : M D := fun S => match x, y with
  | .bl a, .bl b => .ok (.bl (decide (a = b))) S
  | x, .non => .ok (.bl x.isNon) S
  | _, _ => .bad
def oIsnt (x y : D) : M D := fun S => match x, y with
  | .bl a, .bl b => .ok (.bl (!decide (a = b))) S
  | x, .non => .ok (.bl (!x.isNon)) S
  | _, _ => .bad
theorem relD_isNon {K : PySem.W.Frag} {ι : Ix} {H : Hp} {d : D} {v : V} (r : RelD K ι H d v) : decide (v = .non) = d.isNon := by
  cases d with
  | non => rw [relD_non.mp r]; rfl
  | bl b => rw [relD_bl.mp r]; rfl
  | int b => rw [relD_int.mp r]; rfl
  | str b => rw [relD_str.mp r]; rfl
  | tup xs => obtain ⟨a, vs, h, _⟩ := relD_tup.mp r; rw [h]; rfl
  | lst xs => obtain ⟨a, vs, h, _⟩ := relD_lst.mp r; rw [h]; rfl
  | rol xs => obtain ⟨a, vs, h, _⟩ := relD_rol.mp r; rw [h]; rfl
  | dct ks xs => obtain ⟨a, vs, h, _⟩ := relD_dct.mp r; rw [h]; rfl
  | tpk xs => obtain ⟨a, vs, h, _⟩ := relD_tpk.mp r; rw [h]; rfl
  | ref n => obtain ⟨a, h, _⟩ := relD_ref.mp r; rw [h]; rfl
theorem co_is : COp (compareOp .Is) oIs := ⟨fun X _ _ => OpR.imp (op_isN.or op_isBl) fun vx vy H Q ⟨x, y, S, ι, w, r1, r2, f⟩ => by
  unfold oIs at f
  split at f
  · exact .inr ⟨_, _, relD_bl.mp r1, relD_bl.mp r2, f.now w (relD_bl.mpr rfl)⟩
  · refine .inl ⟨relD_non.mp r2, ?_⟩
    rw [relD_isNon r1]
    exact f.now w (relD_bl.mpr rfl)
  · exact f.elim⟩
theorem co_isnt : COp (compareOp .IsNot) oIsnt := ⟨fun X _ _ => OpR.imp (op_notN.or op_notBl) fun vx vy H Q ⟨x, y, S, ι, w, r1, r2, f⟩ => by
  unfold oIsnt at f
  split at f
  · exact .inr ⟨_, _, relD_bl.mp r1, relD_bl.mp r2, f.now w (relD_bl.mpr rfl)⟩
  · refine .inl ⟨relD_non.mp r2, ?_⟩
    rw [relD_isNon r1]
    exact f.now w (relD_bl.mpr rfl)
  · exact f.elim⟩
end G
end

section
set_option Elab.async false
set_option linter.all false
set_option maxRecDepth 100000
namespace G
open PySem PySem.Spec PyProof.Rows L2

/-! ### == of data -/
mutual
def D.toP : D → PyData
  | .non => .none
  | .bl b => .bool b
  | .int i => .int i
  | .str s => .str s
  | .tup xs => .tuple (D.toPs xs)
  | .lst xs => .list (D.toPs xs)
  | _ => .none
def D.toPs : List D → List PyData
  | [] => []
  | d :: r => D.toP d :: D.toPs r
end
mutual
/-- data of this depth at most -/
def D.shp : Nat → D → Bool
  | _, .non => true
  | _, .bl _ => true
  | _, .int _ => true
  | _, .str s => PyData.strOk s
  | 0, .tup _ => false
  | 0, .lst _ => false
  | n + 1, .tup xs => D.shps n xs
  | n + 1, .lst xs => D.shps n xs
  | _, _ => false
def D.shps : Nat → List D → Bool
  | _, [] => true
  | n, d :: r => D.shp n d && D.shps n r
end
mutual
def D.eqv : D → D → Bool
  | .non, .non => true
  | .bl a, .bl b => a == b
  | .bl a, .int j => (if a then 1 else 0) == j
  | .int i, .bl b => i == (if b then 1 else 0)
  | .int i, .int j => i == j
  | .str x, .str y => x == y
  | .tup xs, .tup ys => D.eqvs xs ys
  | .lst xs, .lst ys => D.eqvs xs ys
  | _, _ => false
def D.eqvs : List D → List D → Bool
  | [], [] => true
  | x :: xs, y :: ys => D.eqv x y && D.eqvs xs ys
  | _, _ => false
end
mutual
theorem D.eqv_toP : ∀ (n : Nat) (d e : D), D.shp n d = true → D.shp n e = true → PyData.eqv d.toP e.toP = D.eqv d e
  | n, d, e, hd, he => by
    cases d with
    | tup xs =>
      cases n with
      | zero => unfold D.shp at hd; cases hd
      | succ n =>
        cases e with
        | tup ys =>
          unfold D.shp at hd he
          unfold D.toP PyData.eqv D.eqv
          exact D.eqvs_toP n xs ys hd he
        | _ => first | rfl | (unfold D.shp at he; cases he)
    | lst xs =>
      cases n with
      | zero => unfold D.shp at hd; cases hd
      | succ n =>
        cases e with
        | lst ys =>
          unfold D.shp at hd he
          unfold D.toP PyData.eqv D.eqv
          exact D.eqvs_toP n xs ys hd he
        | _ => first | rfl | (unfold D.shp at he; cases he)
    | rol xs => cases n <;> (unfold D.shp at hd; cases hd)
    | dct ks xs => cases n <;> (unfold D.shp at hd; cases hd)
    | ref m => cases n <;> (unfold D.shp at hd; cases hd)
    | tpk m => cases n <;> (unfold D.shp at hd; cases hd)
    | _ => cases e <;> first | rfl | (cases n <;> (unfold D.shp at he; cases he))
theorem D.eqvs_toP : ∀ (n : Nat) (ds es : List D), D.shps n ds = true → D.shps n es = true → PyData.eqvAll (D.toPs ds) (D.toPs es) = D.eqvs ds es
  | n, [], [], _, _ => rfl
  | n, [], _ :: _, _, _ => rfl
  | n, _ :: _, [], _, _ => rfl
  | n, d :: ds, e :: es, hd, he => by
    unfold D.shps at hd he
    obtain ⟨a1, a2⟩ := ba hd
    obtain ⟨b1, b2⟩ := ba he
    unfold D.toPs PyData.eqvAll D.eqvs
    rw [D.eqv_toP n d e a1 b1, D.eqvs_toP n ds es a2 b2]
end
mutual
theorem D.toP_ok : ∀ (n : Nat) (d : D), D.shp n d = true → d.toP.canLay0 = true ∧ d.toP.depth ≤ n
  | n, d, h => by
    cases d with
    | tup xs =>
      cases n with
      | zero => unfold D.shp at h; cases h
      | succ n =>
        unfold D.shp at h
        obtain ⟨a, b⟩ := D.toPs_ok n xs h
        unfold D.toP PyData.canLay0 PyData.depth
        exact ⟨a, by omega⟩
    | lst xs =>
      cases n with
      | zero => unfold D.shp at h; cases h
      | succ n =>
        unfold D.shp at h
        obtain ⟨a, b⟩ := D.toPs_ok n xs h
        unfold D.toP PyData.canLay0 PyData.depth
        exact ⟨a, by omega⟩
    | str s =>
      refine ⟨?_, by unfold D.toP PyData.depth; omega⟩
      unfold D.toP PyData.canLay0
      cases n <;> exact h
    | rol xs => cases n <;> (unfold D.shp at h; cases h)
    | dct ks xs => cases n <;> (unfold D.shp at h; cases h)
    | ref m => cases n <;> (unfold D.shp at h; cases h)
    | tpk m => cases n <;> (unfold D.shp at h; cases h)
    | _ => exact ⟨by unfold D.toP PyData.canLay0; rfl, by unfold D.toP PyData.depth; omega⟩
theorem D.toPs_ok : ∀ (n : Nat) (ds : List D), D.shps n ds = true → PyData.canLayAll0 (D.toPs ds) = true ∧ PyData.depthAll (D.toPs ds) ≤ n
  | n, [], _ => ⟨by unfold D.toPs PyData.canLayAll0; rfl, by unfold D.toPs PyData.depthAll; omega⟩
  | n, d :: r, h => by
    unfold D.shps at h
    obtain ⟨h1, h2⟩ := ba h
    obtain ⟨a, b⟩ := D.toP_ok n d h1
    obtain ⟨a', b'⟩ := D.toPs_ok n r h2
    unfold D.toPs PyData.canLayAll0 PyData.depthAll
    exact ⟨by rw [a, a']; rfl, by omega⟩
end
theorem D.shaped {d : D} (h : D.shp 30 d = true) : SeqAt.shaped d.toP = true := by
  obtain ⟨a, b⟩ := D.toP_ok 30 d h
  unfold SeqAt.shaped
  rw [a, decide_eq_true (by omega)]
  rfl
section
variable {K : PySem.W.Frag} {ι : Ix} {H : Hp} {S : Store}
mutual
theorem D.dp : ∀ (n : Nat) (d : D) {v : V}, D.shp n d = true → RelD K ι H d v → Dp K H v d.toP
  | n, d, v, h, r => by
    cases d with
    | non => rw [relD_non.mp r]; unfold D.toP; exact .non
    | bl b => rw [relD_bl.mp r]; unfold D.toP; exact .bl b
    | int i => rw [relD_int.mp r]; unfold D.toP; exact .int i
    | str s => rw [relD_str.mp r]; unfold D.toP; exact .str s
    | tup xs =>
      cases n with
      | zero => unfold D.shp at h; cases h
      | succ n =>
        unfold D.shp at h
        obtain ⟨a, vs, h1, h2, _, h4⟩ := relD_tup.mp r
        rw [h1]; unfold D.toP
        exact .tup h2.sq (D.dps n xs h h4)
    | lst xs =>
      cases n with
      | zero => unfold D.shp at h; cases h
      | succ n =>
        unfold D.shp at h
        obtain ⟨a, vs, h1, h2, _, _, h4⟩ := relD_lst.mp r
        rw [h1]; unfold D.toP
        exact .lst (.inl (.inl h2)) (D.dps n xs h h4)
    | rol xs => cases n <;> (unfold D.shp at h; cases h)
    | dct ks xs => cases n <;> (unfold D.shp at h; cases h)
    | ref m => cases n <;> (unfold D.shp at h; cases h)
    | tpk m => cases n <;> (unfold D.shp at h; cases h)
theorem D.dps : ∀ (n : Nat) (ds : List D) {vs : List V}, D.shps n ds = true → RelDs K ι H ds vs → DpAll K H vs (D.toPs ds)
  | n, [], vs, _, r => by unfold RelDs at r; rw [r]; unfold D.toPs; exact .nil
  | n, d :: ds, vs, h, r => by
    unfold D.shps at h
    obtain ⟨h1, h2⟩ := ba h
    unfold RelDs at r
    obtain ⟨v, vr, e, r1, r2⟩ := r
    rw [e]; unfold D.toPs
    exact .cons (D.dp n d h1 r1) (D.dps n ds h2 r2)
end
/-- a list in a cell, as it is now -/
def D.now (d : D) (S : Store) : D := match d with
  | .ref n => match S[n]? with
    | some (.lst xs) => .lst xs
    | _ => .ref n
  | d => d
theorem D.now_dp (w : World K ι H S) {d : D} {v : V} (r : RelD K ι H d v) (h : D.shp 30 (d.now S) = true) : Dp K H v (d.now S).toP := by
  cases d with
  | ref n =>
    cases e : S[n]? with
    | none =>
      have z : D.now (.ref n) S = .ref n := by simp only [D.now, e]
      rw [z] at h; unfold D.shp at h; cases h
    | some c =>
      cases c with
      | lst xs =>
        have z : D.now (.ref n) S = .lst xs := by simp only [D.now, e]
        rw [z] at h ⊢
        obtain ⟨a, h1, h2⟩ := relD_ref.mp r
        obtain ⟨b, vs, h3, h4, _, h6⟩ := w.lstAt e
        rw [h2] at h3; cases h3
        rw [h1]
        unfold D.shp at h
        unfold D.toP
        exact .lst (.inl (.inl h4)) (D.dps 29 xs h h6)
      | dK _ _ =>
        have z : D.now (.ref n) S = .ref n := by simp only [D.now, e]
        rw [z] at h; unfold D.shp at h; cases h
      | dT _ _ =>
        have z : D.now (.ref n) S = .ref n := by simp only [D.now, e]
        rw [z] at h; unfold D.shp at h; cases h
  | _ => exact D.dp 30 _ h r
end
def oEq (x y : D) : M D := fun S => if D.shp 30 (x.now S) && D.shp 30 (y.now S) then .ok (.bl (D.eqv (x.now S) (y.now S))) S else .bad
def oNe (x y : D) : M D := fun S => if D.shp 30 (x.now S) && D.shp 30 (y.now S) then .ok (.bl (!D.eqv (x.now S) (y.now S))) S else .bad
theorem co_eq : COp (compareOp .Eq) oEq := ⟨fun X _ hu => OpR.imp (op_eqD (by omega)) fun vx vy H Q ⟨x, y, S, ι, w, r1, r2, f⟩ => by
  unfold oEq at f
  by_cases h : (D.shp 30 (x.now S) && D.shp 30 (y.now S)) = true
  · rw [if_pos h] at f
    obtain ⟨h1, h2⟩ := ba h
    refine ⟨_, _, D.now_dp w r1 h1, D.now_dp w r2 h2, D.shaped h1, D.shaped h2, ?_⟩
    rw [D.eqv_toP 30 _ _ h1 h2]
    exact f.now w (relD_bl.mpr rfl)
  · rw [if_neg h] at f; exact f.elim⟩
theorem co_ne : COp (compareOp .NotEq) oNe := ⟨fun X _ hu => OpR.imp (op_neD (by omega)) fun vx vy H Q ⟨x, y, S, ι, w, r1, r2, f⟩ => by
  unfold oNe at f
  by_cases h : (D.shp 30 (x.now S) && D.shp 30 (y.now S)) = true
  · rw [if_pos h] at f
    obtain ⟨h1, h2⟩ := ba h
    refine ⟨_, _, D.now_dp w r1 h1, D.now_dp w r2 h2, D.shaped h1, D.shaped h2, ?_⟩
    rw [D.eqv_toP 30 _ _ h1 h2]
    exact f.now w (relD_bl.mpr rfl)
  · rw [if_neg h] at f; exact f.elim⟩

/-! ### in, not in -/
def rInS (K : PySem.W.Frag) (neg : Bool) : R2 := fun x y H Q => ∃ d ds, Dp K H x d ∧ (Dp K H y (.list ds) ∨ Dp K H y (.tuple ds)) ∧ SeqAt.shaped d = true ∧ SeqAt.shaped (.list ds) = true ∧ Q (.bl (if neg then !ds.any fun z => PyData.eqv z d else ds.any fun z => PyData.eqv z d)) H
theorem op_inS {X : Cx} (hu : X.A.units + 65 < cLine) : OpR X (compareOp .In) (rInS X.K false) := by
  intro pins s σ H x y v u Q I rx ry h
  obtain ⟨d, ds, hd, he, sd, se, q⟩ := h
  obtain ⟨as, r1⟩ := Dp.reads I d x v hd rx
  have hl : PyData.canLayAll0 ds = true := SeqAt.canLay_of_shaped se
  rcases he with he | he
  · obtain ⟨bs, r2⟩ := Dp.reads I (.list ds) y u he ry
    exact SeqAt.in_list_reads r2 r1 hl (SeqAt.canLay_of_shaped sd) (room_in_shaped sd hu) ⟨.bl _, H, I, rfl, q⟩
  · obtain ⟨bs, r2⟩ := Dp.reads I (.tuple ds) y u he ry
    exact SeqAt.in_tuple_reads r2 r1 hl (SeqAt.canLay_of_shaped sd) (room_in_shaped sd hu) ⟨.bl _, H, I, rfl, q⟩
theorem op_notInS {X : Cx} (hu : X.A.units + 65 < cLine) : OpR X (compareOp .NotIn) (rInS X.K true) := by
  intro pins s σ H x y v u Q I rx ry h
  obtain ⟨d, ds, hd, he, sd, se, q⟩ := h
  obtain ⟨as, r1⟩ := Dp.reads I d x v hd rx
  have hl : PyData.canLayAll0 ds = true := SeqAt.canLay_of_shaped se
  rcases he with he | he
  · obtain ⟨bs, r2⟩ := Dp.reads I (.list ds) y u he ry
    exact SeqAt.notIn_list_reads r2 r1 hl (SeqAt.canLay_of_shaped sd) (room_in_shaped sd hu) ⟨.bl _, H, I, rfl, q⟩
  · obtain ⟨bs, r2⟩ := Dp.reads I (.tuple ds) y u he ry
    exact SeqAt.notIn_tuple_reads r2 r1 hl (SeqAt.canLay_of_shaped sd) (room_in_shaped sd hu) ⟨.bl _, H, I, rfl, q⟩
/-- the items of a list or tuple of data -/
def D.its (d : D) (S : Store) : Option (List D) := match d.now S with
  | .lst xs => some xs
  | .tup xs => some xs
  | _ => none
def memD (x : D) (xs : List D) : Bool := xs.any fun z => D.eqv z x
theorem any_toPs {x : D} : ∀ {xs : List D}, D.shp 30 x = true → D.shps 30 xs = true → ((D.toPs xs).any fun z => PyData.eqv z x.toP) = memD x xs
  | [], _, _ => rfl
  | d :: r, hx, h => by
    unfold D.shps at h
    obtain ⟨h1, h2⟩ := ba h
    unfold D.toPs memD
    rw [List.any_cons, List.any_cons, D.eqv_toP 30 d x h1 hx, any_toPs hx h2]
    rfl
theorem D.shps_shaped {xs : List D} (h : D.shps 30 xs = true) : SeqAt.shaped (.list (D.toPs xs)) = true := by
  obtain ⟨a, b⟩ := D.toPs_ok 30 xs h
  unfold SeqAt.shaped PyData.canLay0 PyData.depth
  rw [a, decide_eq_true (by omega)]
  rfl
def oInG (neg : Bool) (x y : D) : M D := fun S => match D.its y S with
  | some ys => if D.shp 30 (x.now S) && D.shps 30 ys then .ok (.bl (if neg then !memD (x.now S) ys else memD (x.now S) ys)) S else .bad
  | none => .bad
theorem its_dp {K : PySem.W.Frag} {ι : Ix} {H : Hp} {S : Store} (w : World K ι H S) {d : D} {v : V} {xs : List D} (r : RelD K ι H d v) (e : D.its d S = some xs) (h : D.shps 30 xs = true) :
    Dp K H v (.list (D.toPs xs)) ∨ Dp K H v (.tuple (D.toPs xs)) := by
  cases d with
  | tup ys =>
    cases e
    obtain ⟨a, vs, h1, h2, _, h4⟩ := relD_tup.mp r
    rw [h1]
    exact .inr (.tup h2.sq (D.dps 30 _ h h4))
  | lst ys =>
    cases e
    obtain ⟨a, vs, h1, h2, _, _, h4⟩ := relD_lst.mp r
    rw [h1]
    exact .inl (.lst (.inl (.inl h2)) (D.dps 30 _ h h4))
  | ref n =>
    cases q : S[n]? with
    | none =>
      have z : D.now (.ref n) S = .ref n := by simp only [D.now, q]
      unfold D.its at e; rw [z] at e; cases e
    | some c =>
      cases c with
      | lst ys =>
        have z : D.now (.ref n) S = .lst ys := by simp only [D.now, q]
        unfold D.its at e; rw [z] at e; cases e
        obtain ⟨a, h1, h2⟩ := relD_ref.mp r
        obtain ⟨b, vs, h3, h4, _, h6⟩ := w.lstAt q
        rw [h2] at h3; cases h3
        rw [h1]
        exact .inl (.lst (.inl (.inl h4)) (D.dps 30 _ h h6))
      | dK _ _ =>
        have z : D.now (.ref n) S = .ref n := by simp only [D.now, q]
        unfold D.its at e; rw [z] at e; cases e
      | dT _ _ =>
        have z : D.now (.ref n) S = .ref n := by simp only [D.now, q]
        unfold D.its at e; rw [z] at e; cases e
  | _ => cases e
theorem rin_ok {X : Cx} {neg : Bool} {vx vy : V} {H : Hp} {Q : VK} (h : rD2 X.K (oInG neg) vx vy H Q) : rInS X.K neg vx vy H Q := by
  obtain ⟨x, y, S, ι, w, r1, r2, f⟩ := h
  unfold oInG at f
  cases e : D.its y S with
  | none => rw [e] at f; exact f.elim
  | some ys =>
    rw [e] at f
    by_cases h : (D.shp 30 (x.now S) && D.shps 30 ys) = true
    · have f : Fin X.K (RelD X.K) ι H Q (if D.shp 30 (x.now S) && D.shps 30 ys then .ok (.bl (if neg then !memD (x.now S) ys else memD (x.now S) ys)) S else .bad) := f
      rw [if_pos h] at f
      obtain ⟨h1, h2⟩ := ba h
      refine ⟨_, _, D.now_dp w r1 h1, its_dp w r2 e h2, D.shaped h1, D.shps_shaped h2, ?_⟩
      rw [any_toPs h1 h2]
      exact f.now w (relD_bl.mpr rfl)
    · have f : Fin X.K (RelD X.K) ι H Q (if D.shp 30 (x.now S) && D.shps 30 ys then .ok (.bl (if neg then !memD (x.now S) ys else memD (x.now S) ys)) S else .bad) := f
      rw [if_neg h] at f; exact f.elim
def oIn : D → D → M D := oInG false
def oNotIn : D → D → M D := oInG true
theorem co_in : COp (compareOp .In) oIn := ⟨fun X _ hu => OpR.imp (op_inS (by omega)) fun vx vy H Q h => rin_ok h⟩
theorem co_notIn : COp (compareOp .NotIn) oNotIn := ⟨fun X _ hu => OpR.imp (op_notInS (by omega)) fun vx vy H Q h => rin_ok h⟩

/-! ### x[i] -/
def oIx (x y : D) : M D := fun S => match y with
  | .int i => match seqOf x S with
    | some xs => match atI xs i with
      | some d => .ok d S
      | none => .bad
    | none => .bad
  | _ => .bad
theorem atI_rel {K : PySem.W.Frag} {ι : Ix} {H : Hp} {ds : List D} {vs : List V} {i : Int} {d : D} (r : RelDs K ι H ds vs) (h : atI ds i = some d) : ∃ v, atI vs i = some v ∧ RelD K ι H d v := by
  unfold atI at h ⊢
  rw [r.length]
  cases e : ixN ds.length i with
  | none => rw [e] at h; cases h
  | some j =>
    rw [e] at h
    exact r.get h
def cIx {a b : Ev} (x : CE a) (y : CE b) (p : Pos) : CE (eBin oIx a b) where
  py := .Subscript x.py y.py p
  chk := fun L => x.chk L && y.chk L
  pl := rfl
  ok := fun L Φ X g q => by
    obtain ⟨q1, q2⟩ := ba q
    refine PE.weak (pe_ix (ix_list.or ix_tup) (x.ok L Φ X g q1) (y.ok L Φ X g q2) (plainIx_pl y.pl)) fun σ H Q h => ?_
    obtain ⟨ρ, S, ι, w, e, f⟩ := h
    refine ⟨ρ, S, ι, w, e, Fin.bind f fun x S1 ι1 H1 v e1 w1 r1 f1 => ⟨ρ, S1, ι1, w1, e.mono e1, Fin.bind f1 fun y S2 ι2 H2 u e2 w2 r2 f2 => ?_⟩⟩
    unfold oIx at f2
    split at f2
    · rename_i i
      cases hs : seqOf x S2 with
      | none => rw [hs] at f2; exact f2.elim
      | some xs =>
        rw [hs] at f2
        cases ha : atI xs i with
        | none =>
          have f2 : Fin X.K (RelD X.K) ι2 H2 Q (match atI xs i with | some d => .ok d S2 | none => .bad) := f2
          rw [ha] at f2; exact f2.elim
        | some d =>
          have f2 : Fin X.K (RelD X.K) ι2 H2 Q (match atI xs i with | some d => .ok d S2 | none => .bad) := f2
          rw [ha] at f2
          obtain ⟨a, vs, h1, h2, _, h4⟩ := seqOf_ok w2 (r1.mono e2) hs
          obtain ⟨vd, k1, k2⟩ := atI_rel h4 ha
          rcases h2 with h2 | h2
          · exact .inl ⟨a, vs, i, vd, h1, relD_int.mp r2, h2, k1, f2.now w2 k2⟩
          · exact .inr ⟨a, vs, i, vd, h1, relD_int.mp r2, h2, k1, f2.now w2 k2⟩
    · exact f2.elim

/-! ### x[a:b] -/
abbrev Ov := Ph → Ro → M (Option Int)
structure CO (ev : Ov) where
  py : Option Expr
  chk : Lx → Bool
  ok : ∀ (L : Lx) (Φ : Ph) (X : Cx), Gd L Φ X → chk L = true → PO X py (tO X.K (ev Φ))
def vNo : Ov := fun _ _ => M.ok none
def vSo (e : Ev) : Ov := fun Φ ρ => (e Φ ρ).bind fun d S => match d with
  | .int i => .ok (some i) S
  | _ => .bad
theorem PO.weak {X : Cx} {e : Option Expr} {t t' : TO} (h : PO X e t) (w : ∀ σ H Q, t' σ H Q → t σ H Q) : PO X e t' := ⟨fun pins s σ H Q I q => h.run pins s σ H Q I (w _ _ _ q)⟩
def coNo : CO vNo where
  py := none
  chk := fun _ => true
  ok := fun L Φ X g q => PO.weak po_none fun σ H Q ⟨ρ, S, ι, w, e, f⟩ => f.now w rfl
def coSo {e : Ev} (x : CE e) : CO (vSo e) where
  py := some x.py
  chk := x.chk
  ok := fun L Φ X g q => PO.weak (po_some (x.ok L Φ X g q)) fun σ H Q ⟨ρ, S, ι, w, e, f⟩ => ⟨ρ, S, ι, w, e, Fin.bind f fun d S1 ι1 H1 v e1 w1 r1 f1 => by
    split at f1
    · exact ⟨_, relD_int.mp r1, f1.now w1 rfl⟩
    · exact f1.elim⟩
def cutD {α : Type} (xs : List α) (lo hi : Option Int) : List α := (xs.drop (HT.sIx xs.length 0 lo)).take (HT.sIx xs.length xs.length hi - HT.sIx xs.length 0 lo)
/-- a part of a list (m: whether it may be written), of a tuple -/
def oSl (m : Bool) (x : D) (lo hi : Option Int) : M D := fun S => match x with
  | .tup xs => .ok (.tup (cutD xs lo hi)) S
  | x => match lstOf x S with
    | some xs => mkLst m (cutD xs lo hi) S
    | none => .bad
def eSl (m : Bool) (x : Ev) (lo hi : Ov) : Ev := fun Φ ρ => (x Φ ρ).bind fun d => (lo Φ ρ).bind fun l => (hi Φ ρ).bind fun h => oSl m d l h
theorem RelDs.cutD {K : PySem.W.Frag} {ι : Ix} {H : Hp} {ds : List D} {vs : List V} (h : RelDs K ι H ds vs) (lo hi : Option Int) : RelDs K ι H (G.cutD ds lo hi) (cutV vs lo hi) := by
  unfold G.cutD cutV
  rw [h.length]
  exact (h.drop _).take _
theorem cut_whole {α : Type} {xs : List α} {lo hi : Option Int} (h : HT.sIx xs.length 0 lo = 0 ∧ HT.sIx xs.length xs.length hi = xs.length) : cutD xs lo hi = xs := by
  unfold cutD
  rw [h.1, h.2]
  simp
def cSl (m : Bool) {x : Ev} {lo hi : Ov} (a : CE x) (l : CO lo) (h : CO hi) (p2 p : Pos) : CE (eSl m x lo hi) where
  py := .Subscript a.py (.Slice l.py h.py none p2) p
  chk := fun L => a.chk L && (l.chk L && h.chk L)
  pl := rfl
  ok := fun L Φ X g q => by
    obtain ⟨q1, q2⟩ := ba q
    obtain ⟨q2, q3⟩ := ba q2
    refine PE.weak (pe_slice (sl_list.or sl_tupF) (a.ok L Φ X g q1) (l.ok L Φ X g q2) (h.ok L Φ X g q3)) fun σ H Q ⟨ρ, S, ι, w, e, f⟩ => ?_
    refine ⟨ρ, S, ι, w, e, Fin.bind f fun x S1 ι1 H1 v e1 w1 r1 f1 => ⟨ρ, S1, ι1, w1, e.mono e1, Fin.bind f1 fun y S2 ι2 H2 u e2 w2 r2 f2 => ⟨ρ, S2, ι2, w2, e.mono (e1.trans e2), Fin.bind f2 fun z S3 ι3 H3 t e3 w3 r3 f3 => ?_⟩⟩⟩
    cases (show y = u from r2)
    cases (show z = t from r3)
    have rx := r1.mono (e2.trans e3)
    unfold oSl at f3
    split at f3
    · obtain ⟨a, vs, h1, h2, h3, h4⟩ := relD_tup.mp rx
      refine .inr ⟨a, vs, h1, h2.sq, fun hw => ?_, fun hw => ?_⟩
      · rw [h4.length] at hw
        rw [cut_whole hw] at f3
        rw [h1] at rx
        exact f3.now w3 rx
      · exact f3.tupNew w3 (h4.cutD _ _) (Nat.le_trans (cutV_length _ _ _) h3)
    · cases hl : lstOf x S3 with
      | none => rw [hl] at f3; exact f3.elim
      | some xs =>
        rw [hl] at f3
        obtain ⟨a, vs, h1, h2, h3, h4⟩ := lstOf_ok w3 rx hl
        exact .inl ⟨a, vs, h1, h2, fun p hp => Fin.mkNew f3 w3 (h4.cutD _ _) (Nat.le_trans (cutV_length _ _ _) h3) p hp⟩
end G
end

section
set_option Elab.async false
set_option linter.all false
set_option maxRecDepth 100000
namespace G
open PySem PySem.Spec PyProof.Rows L2 PySem.W
/-! ### lists of data: sorted, the least, the greatest -/
theorem DpAll.len {K : PySem.W.Frag} {H : Hp} : ∀ {vs : List V} {ps : List PyData}, DpAll K H vs ps → vs.length = ps.length
  | _, _, .nil => rfl
  | _, _, .cons _ h => by rw [List.length_cons, List.length_cons, DpAll.len h]
def rSrtD (K : PySem.W.Frag) : List V → Hp → VK → Prop := fun us H Q => ∃ (a : Addr) (vs : List V) (ps : List PyData), us = [V.ref a] ∧ SqL K H a vs ∧ DpAll K H vs ps ∧ AllAlike ps ∧ Sortable ps ∧ (∀ p ∈ ps, p.depth ≤ 40) ∧ vs.length ≤ sizeLine ∧
  ∀ q, H q = none → Q (.ref q) (upd H q (.lst (((vs.zip ps).mergeSort (dataLe false fun b => b.2)).map fun b => b.1)))
theorem vals_each : ∀ {vs : List V} {us : List Value} {ps : List PyData}, Vals vs us → vs.length = ps.length → EachIs (fun (u : Value) (b : V × PyData) => RelV b.1 u) us (vs.zip ps)
  | _, _, [], .nil, _ => .nil
  | _, _, [], .cons _ _, h => by cases h
  | _, _, _ :: _, .nil, h => by cases h
  | _, _, p :: ps, .cons r rs, h => .cons r (vals_each rs (by simpa using h))
theorem each_vals : ∀ {us : List Value} {bs : List (V × PyData)}, EachIs (fun (u : Value) (b : V × PyData) => RelV b.1 u) us bs → Vals (bs.map fun b => b.1) us
  | _, _, .nil => .nil
  | _, _, .cons r rs => .cons r (each_vals rs)
theorem reads_each {X : Cx} {pins : List (Addr × Obj)} {σ : L2.St} {H : Hp} {s : Shared} (I : Inv X pins σ H s) : ∀ {vs : List V} {us : List Value} {ps : List PyData}, DpAll X.K H vs ps → Vals vs us → EachIs (fun (u : Value) (b : V × PyData) => ∃ as, Reads s.heap u b.2 as) us (vs.zip ps)
  | _, _, _, .nil, .nil => .nil
  | _, _, _, .cons h hs, .cons r rs => .cons (Dp.reads I _ _ _ h r) (reads_each I hs rs)
theorem cr_srtD {X : Cx} (hu : X.A.units + 100 < cLine) : CallR X (.builtin "sorted") (rSrtD X.K) := by
  intro pins s σ H vs0 us Q I r h
  obtain ⟨a, vs, ps, rfl, hs, hp, hal, hk, hd, hz, q⟩ := h
  obtain ⟨xv, rv, hl, _⟩ := I.list hs
  rw [Vals.ref1 r]
  have e : (vs.zip ps).map (fun b : V × PyData => b.2) = ps := by rw [List.map_snd_zip (by rw [DpAll.len hp]; exact Nat.le_refl _)]
  have el : (vs.zip ps).length = vs.length := by rw [List.length_zip, ← DpAll.len hp, Nat.min_self]
  refine sorted_data (vs := xv) (bs := vs.zip ps) (enc := fun b => b.2) (R := fun (u : Value) (b : V × PyData) => RelV b.1 u) hl.isList (vals_each rv (DpAll.len hp)) (reads_each I hp rv) (by rw [e]; exact hal) (by rw [e]; exact hk) (by rw [el]; exact hz) (fun b hb => ?_) fun out h1 h2 => ?_
  · have := hd b.2 (by rw [← e]; exact List.mem_map_of_mem hb)
    omega
  · have hv := each_vals h2
    obtain ⟨ep, he'⟩ := PyProof.Rows.sortedAll_at s.heap xv out.toArray
    have hlen : (((vs.zip ps).mergeSort (dataLe false fun b => b.2)).map fun b => b.1).length ≤ sizeLine := by rw [List.length_map, List.length_mergeSort, el]; exact hz
    exact ⟨.ref _, upd H (s.heap.objs.size + 1) (.lst _), I.laid (t' := s.toks) (fun _ _ => PyProof.Rows.sortedAll_old) (Nat.le_succ _) ⟨hlen, out, ep, hv, he'⟩, rfl, q _ (I.hok.fresh (Nat.le_succ _))⟩
def minL : List PyData → Option PyData
  | [] => none
  | x :: xs => some (minD x xs)
def maxL : List PyData → Option PyData
  | [] => none
  | x :: xs => some (maxD x xs)
def rMinD (K : PySem.W.Frag) (f : List PyData → Option PyData) : List V → Hp → VK → Prop := fun us H Q => ∃ (a : Addr) (vs : List V) (ps : List PyData), us = [V.ref a] ∧ SqL K H a vs ∧ DpAll K H vs ps ∧ ps ≠ [] ∧ AlikeAll ps ∧ PyData.depthAll ps ≤ 40 ∧
  ∀ (i : Nat) (v : V), vs[i]? = some v → ps[i]? = f ps → Q v H
theorem vals_get : ∀ {vs : List V} {us : List Value}, Vals vs us → ∀ {i : Nat} {u : Value}, us[i]? = some u → ∃ v, vs[i]? = some v ∧ RelV v u
  | _, _, .nil, _, _, h => by simp at h
  | _, _, .cons r rs, 0, u, h => by
    have e := Option.some.inj (show some _ = some u from h)
    subst e
    exact ⟨_, rfl, r⟩
  | _, _, .cons r rs, i + 1, u, h => by
    obtain ⟨v, h1, h2⟩ := vals_get rs (i := i) (u := u) (by simpa using h)
    exact ⟨v, by simpa using h1, h2⟩
theorem readsAll_get {h : Heap} : ∀ {us : List Value} {ps : List PyData} {as : List Addr}, ReadsAll h us ps as → ∀ {i : Nat} {u : Value}, us[i]? = some u → ∃ p bs, ps[i]? = some p ∧ Reads h u p bs
  | _, _, _, .nil, _, _, e => by simp at e
  | _, _, _, .cons r rs, 0, u, e => by
    have e := Option.some.inj (show some _ = some u from e)
    subst e
    exact ⟨_, _, rfl, r⟩
  | _, _, _, .cons r rs, i + 1, u, e => by
    obtain ⟨p, bs, h1, h2⟩ := readsAll_get rs (i := i) (u := u) (by simpa using e)
    exact ⟨p, bs, by simpa using h1, h2⟩
theorem cr_minDt {X : Cx} (hc : X.calm = true) (hu : X.A.units + 100 < cLine) : CallR X (.builtin "min") (rMinD X.K minL) := by
  intro pins s σ H vs0 us Q I r h
  obtain ⟨a, vs, ps, rfl, hs, hp, hne, hal, hd, q⟩ := h
  obtain ⟨xv, rv, hl, _⟩ := I.list hs
  rw [Vals.ref1 r]
  obtain ⟨as, hr⟩ := Dp.readsAll I ps vs xv hp rv
  cases ps with
  | nil => exact absurd rfl hne
  | cons p ps =>
    refine min_list_data (I.ok.hd hc) hl.isList hr hal (by omega) fun i v h' tk bs hi hv hk => ?_
    have hi' : xv[i]? = some v := by rw [Array.getElem?_toList]; exact hi
    obtain ⟨w, hw, rw'⟩ := vals_get rv hi'
    obtain ⟨p', bs', hp', hr'⟩ := readsAll_get hr hi'
    have e : p' = minD p ps := (reads_det (fun b o e _ => hk b o e) hr' hv).1.symm
    exact ⟨w, H, I.kept hk, rw', q i w hw (by rw [hp', e]; rfl)⟩
theorem cr_maxDt {X : Cx} (hc : X.calm = true) (hu : X.A.units + 100 < cLine) : CallR X (.builtin "max") (rMinD X.K maxL) := by
  intro pins s σ H vs0 us Q I r h
  obtain ⟨a, vs, ps, rfl, hs, hp, hne, hal, hd, q⟩ := h
  obtain ⟨xv, rv, hl, _⟩ := I.list hs
  rw [Vals.ref1 r]
  obtain ⟨as, hr⟩ := Dp.readsAll I ps vs xv hp rv
  cases ps with
  | nil => exact absurd rfl hne
  | cons p ps =>
    refine max_list_data (I.ok.hd hc) hl.isList hr hal (by omega) fun i v h' tk bs hi hv hk => ?_
    have hi' : xv[i]? = some v := by rw [Array.getElem?_toList]; exact hi
    obtain ⟨w, hw, rw'⟩ := vals_get rv hi'
    obtain ⟨p', bs', hp', hr'⟩ := readsAll_get hr hi'
    have e : p' = maxD p ps := (reads_det (fun b o e _ => hk b o e) hr' hv).1.symm
    exact ⟨w, H, I.kept hk, rw', q i w hw (by rw [hp', e]; rfl)⟩
/-! tuples of numbers -/
def rTopT (K : PySem.W.Frag) (f : Int → Int → Int) : List V → Hp → VK → Prop := fun us H Q => ∃ (a : Addr) (n : Int) (ns : List Int), us = [V.ref a] ∧ SqT K H a ((n :: ns).map V.int) ∧ Q (.int (ns.foldl f n)) H
theorem dpAll_ints {K : PySem.W.Frag} {H : Hp} : ∀ ns : List Int, DpAll K H (ns.map V.int) (ns.map PyData.int)
  | [] => .nil
  | n :: ns => .cons (.int n) (dpAll_ints ns)
theorem alikeAll_ints (ns : List Int) : AlikeAll (ns.map PyData.int) := by
  refine ⟨fun x hx y hy => ?_, fun x hx e => ?_⟩
  · obtain ⟨i, _, rfl⟩ := List.mem_map.mp hx
    obtain ⟨j, _, rfl⟩ := List.mem_map.mp hy
    unfold alike; rfl
  · obtain ⟨i, _, rfl⟩ := List.mem_map.mp hx
    cases e
theorem cr_minT {X : Cx} (hc : X.calm = true) (hu : X.A.units + 100 < cLine) : CallR X (.builtin "min") (rTopT X.K min) := by
  intro pins s σ H vs0 us Q I r h
  obtain ⟨a, n, ns, rfl, hs, q⟩ := h
  obtain ⟨xv, rv, ⟨o, ho, hcl, k, hd⟩, _⟩ := I.tuple hs
  rw [Vals.ref1 r]
  obtain ⟨as, hr⟩ := Dp.readsAll I ((n :: ns).map PyData.int) _ xv (dpAll_ints (n :: ns)) rv
  have dz : PyData.depthAll (PyData.int n :: ns.map PyData.int) = 0 := depth_ints (n :: ns)
  refine min_tuple_data (I.ok.hd hc) ⟨o, ho, hcl, k, hd⟩ hr (alikeAll_ints (n :: ns)) (by rw [dz]; omega) fun i v h' tk bs hi hv hk => ?_
  rw [minD_ints] at hv
  cases hv with
  | int _ t => exact ⟨.int _, H, I.kept hk, ⟨t, rfl⟩, q⟩
theorem cr_maxT {X : Cx} (hc : X.calm = true) (hu : X.A.units + 100 < cLine) : CallR X (.builtin "max") (rTopT X.K max) := by
  intro pins s σ H vs0 us Q I r h
  obtain ⟨a, n, ns, rfl, hs, q⟩ := h
  obtain ⟨xv, rv, ⟨o, ho, hcl, k, hd⟩, _⟩ := I.tuple hs
  rw [Vals.ref1 r]
  obtain ⟨as, hr⟩ := Dp.readsAll I ((n :: ns).map PyData.int) _ xv (dpAll_ints (n :: ns)) rv
  have dz : PyData.depthAll (PyData.int n :: ns.map PyData.int) = 0 := depth_ints (n :: ns)
  refine max_tuple_data (I.ok.hd hc) ⟨o, ho, hcl, k, hd⟩ hr (alikeAll_ints (n :: ns)) (by rw [dz]; omega) fun i v h' tk bs hi hv hk => ?_
  rw [maxD_ints] at hv
  cases hv with
  | int _ t => exact ⟨.int _, H, I.kept hk, ⟨t, rfl⟩, q⟩
/-! ### before and behind: numbers, tuples of data -/
def ltD (a b : D) : Bool := dataLt a.toP b.toP
def oCmp (g : Int → Int → Bool) (f : D → D → Bool) (x y : D) : M D := fun S => match x, y with
  | .int i, .int j => .ok (.bl (g i j)) S
  | .tup xs, .tup ys => if (D.shp 30 (.tup xs) && D.shp 30 (.tup ys)) && alike (D.tup xs).toP (D.tup ys).toP then .ok (.bl (f (.tup xs) (.tup ys))) S else .bad
  | _, _ => .bad
def rCmpD (K : PySem.W.Frag) (f : PyData → PyData → Bool) : R2 := fun vx vy H Q => ∃ d e, Dp K H vx d ∧ Dp K H vy e ∧ alike d e = true ∧ d ≠ .none ∧ d.depth ≤ 40 ∧ Q (.bl (f d e)) H
section
variable {X : Cx} (hu : X.A.units + 100 < cLine)
include hu
theorem op_ltDt : OpR X (compareOp .Lt) (rCmpD X.K fun d e => dataLt d e) := by
  intro pins s σ H x y v u Q I rx ry ⟨d, e, hd, he, al, hn, hz, q⟩
  obtain ⟨as, r1⟩ := Dp.reads I d x v hd rx
  obtain ⟨bs, r2⟩ := Dp.reads I e y u he ry
  exact lt_data r1 r2 al hn (by have := Nat.min_le_left d.depth e.depth; omega) ⟨.bl _, H, I, rfl, q⟩
theorem op_gtDt : OpR X (compareOp .Gt) (rCmpD X.K fun d e => dataLt e d) := by
  intro pins s σ H x y v u Q I rx ry ⟨d, e, hd, he, al, hn, hz, q⟩
  obtain ⟨as, r1⟩ := Dp.reads I d x v hd rx
  obtain ⟨bs, r2⟩ := Dp.reads I e y u he ry
  exact gt_data r1 r2 al hn (by have := Nat.min_le_left d.depth e.depth; omega) ⟨.bl _, H, I, rfl, q⟩
theorem op_leDt : OpR X (compareOp .LtE) (rCmpD X.K fun d e => !dataLt e d) := by
  intro pins s σ H x y v u Q I rx ry ⟨d, e, hd, he, al, hn, hz, q⟩
  obtain ⟨as, r1⟩ := Dp.reads I d x v hd rx
  obtain ⟨bs, r2⟩ := Dp.reads I e y u he ry
  exact le_data r1 r2 al hn (by have := Nat.min_le_left d.depth e.depth; omega) ⟨.bl _, H, I, rfl, q⟩
theorem op_geDt : OpR X (compareOp .GtE) (rCmpD X.K fun d e => !dataLt d e) := by
  intro pins s σ H x y v u Q I rx ry ⟨d, e, hd, he, al, hn, hz, q⟩
  obtain ⟨as, r1⟩ := Dp.reads I d x v hd rx
  obtain ⟨bs, r2⟩ := Dp.reads I e y u he ry
  exact ge_data r1 r2 al hn (by have := Nat.min_le_left d.depth e.depth; omega) ⟨.bl _, H, I, rfl, q⟩
end
theorem co_cmp {o : Value → Value → Sem Value} {g : Int → Int → Bool} {f : D → D → Bool} {f' : PyData → PyData → Bool} (h1 : ∀ X, OpR X o (rI0 fun i j => .bl (g i j))) (h2 : ∀ X : Cx, X.A.units + 100 < cLine → OpR X o (rCmpD X.K f')) (hf : ∀ a b : D, f a b = f' a.toP b.toP) : COp o (oCmp g f) :=
  ⟨fun X hc hu => by
    intro pins s σ H vx vy v u Q I rx ry ⟨x, y, S, ι, w, r1, r2, fi⟩
    unfold oCmp at fi
    split at fi
    · exact h1 X pins s σ H vx vy v u Q I rx ry ⟨_, _, relD_int.mp r1, relD_int.mp r2, fi.now w (relD_bl.mpr rfl)⟩
    · rename_i xs ys
      by_cases hb : ((D.shp 30 (.tup xs) && D.shp 30 (.tup ys)) && alike (D.tup xs).toP (D.tup ys).toP) = true
      · rw [if_pos hb] at fi
        obtain ⟨hb, al⟩ := ba hb
        obtain ⟨b1, b2⟩ := ba hb
        refine h2 X hu pins s σ H vx vy v u Q I rx ry ⟨_, _, D.dp 30 _ b1 r1, D.dp 30 _ b2 r2, al, (fun z => by cases z), ?_, ?_⟩
        · have := (D.toP_ok 30 _ b1).2; omega
        · rw [← hf]; exact fi.now w (relD_bl.mpr rfl)
      · rw [if_neg hb] at fi; exact fi.elim
    · exact fi.elim⟩
def oLt : D → D → M D := oCmp (fun i j => decide (i < j)) ltD
def oLe : D → D → M D := oCmp (fun i j => decide (i ≤ j)) fun a b => !ltD b a
def oGt : D → D → M D := oCmp (fun i j => decide (j < i)) fun a b => ltD b a
def oGe : D → D → M D := oCmp (fun i j => decide (j ≤ i)) fun a b => !ltD a b
theorem co_lt : COp (compareOp .Lt) oLt := co_cmp (fun X => op_lt) (fun X => op_ltDt) fun _ _ => rfl
theorem co_le : COp (compareOp .LtE) oLe := co_cmp (fun X => op_le) (fun X => op_leDt) fun _ _ => rfl
theorem co_gt : COp (compareOp .Gt) oGt := co_cmp (fun X => op_gt) (fun X => op_gtDt) fun _ _ => rfl
theorem co_ge : COp (compareOp .GtE) oGe := co_cmp (fun X => op_ge) (fun X => op_geDt) fun _ _ => rfl
/-! ### list.count -/
def rCntD (K : PySem.W.Frag) : V → List V → Hp → VK → Prop := fun x xs H Q => ∃ (a : Addr) (y : V) (vs : List V) (d : PyData) (ds : List PyData), x = .ref a ∧ xs = [y] ∧ SqL K H a vs ∧ DpAll K H vs ds ∧ Dp K H y d ∧ PyData.plainAll ds = true ∧ d.plain = true ∧ d.depth ≤ 40 ∧ Q (.int (ds.countP fun z => PyData.eqv z d : Nat)) H
theorem mt_cntD {X : Cx} (hu : X.A.units + 100 < cLine) : MtR X "list.count" (rCntD X.K) := by
  intro pins s σ H x xs v us Q I rx rxs ⟨a, y, vs, d, ds, ex, exs, hs, hds, hd, p1, p2, hz, q⟩
  subst ex; subst exs
  cases rx
  obtain ⟨u, eu, ru⟩ := rxs.one
  subst eu
  obtain ⟨xv, rv, hl, _⟩ := I.list hs
  obtain ⟨as, r1⟩ := Dp.readsAll I ds vs xv hds rv
  obtain ⟨bs, r2⟩ := Dp.reads I d y u hd ru
  exact SeqAt.count_list_data hl.isList r1 r2 p1 p2 (by have := Nat.min_le_right (PyData.depthAll ds) d.depth; omega) ⟨.int _, H, I.tok _, ⟨s.toks, rfl⟩, q⟩
end G
end

section
set_option Elab.async false
set_option linter.all false
set_option maxRecDepth 100000
namespace G
open PySem PySem.Spec PyProof.Rows L2

/-! ### built-in functions -/
structure COf (f : Value) (op : List D → M D) : Prop where
  ok : ∀ (X : Cx), X.calm = true → X.A.units + 100 < cLine → CallR X f (rDs X.K op)
def eCall (op : List D → M D) (r : Ph → Ro → M (List D)) : Ev := fun Φ ρ => (r Φ ρ).bind op
theorem call_weak {K : PySem.W.Frag} {op : List D → M D} {r : Ro → M (List D)} : ∀ σ H Q, tE K (fun ρ => (r ρ).bind op) σ H Q → tCB (rDs K op) (tA K r) σ H Q :=
  fun σ H Q ⟨ρ, S, ι, w, e, f⟩ => ⟨ρ, S, ι, w, e, Fin.bind f fun ds S1 ι1 H1 vs e1 w1 r1 f1 => ⟨ds, S1, ι1, w1, r1, f1⟩⟩
def bltB (L : Lx) (x : Str) : Bool := decide (x ∈ L.I.fre) && (glB L.sc x && nameOk x)
theorem bltB_ok {L : Lx} {Φ : Ph} {X : Cx} (g : Gd L Φ X) {x : Str} (h : bltB L x = true) : Gl X x ∧ X.mg x = none ∧ x ≠ "__name__" ∧ (x == ("__debug__" : Str)) = false := by
  obtain ⟨q1, q2⟩ := ba h
  obtain ⟨q2, q3⟩ := ba q2
  obtain ⟨n1, _, n3⟩ := nameOk_ok q3
  exact ⟨g.gl q2, g.fre _ (of_decide_eq_true q1), n3, n1⟩
def cCallB {op : List D → M D} {r : Ph → Ro → M (List D)} (x : Str) (id : String) (hv : bootBuiltins x = some (.builtin id)) (h : COf (.builtin id) op) (a : CA r) (ne : ∃ e es, a.py = e :: es) (pl : a.pl = true) (p pos : Pos) : CE (eCall op r) where
  py := .Call (.Name x p) a.py [] pos
  chk := fun L => bltB L x && a.chk L
  pl := rfl
  ok := fun L Φ X g q => by
    obtain ⟨q1, q2⟩ := ba q
    obtain ⟨g1, g2, g3, g4⟩ := bltB_ok g q1
    obtain ⟨e, es, he⟩ := ne
    have hp := a.plOk pl
    have ha := a.ok L Φ X g q2
    rw [he] at hp ha ⊢
    exact PE.weak (pe_callB (h.ok X g.calm g.hu) g1 g2 hv ha g3 g4 (starEach_pl (hp e (by simp)) _ _) (plain_any (fun z hz => hp z (by simp [hz])) _ _)) call_weak
def cCallT {op : List D → M D} {r : Ph → Ro → M (List D)} (x : Str) (id : String) (hv : bootBuiltins x = some (.type id)) (h : COf (.type id) op) (a : CA r) (ne : ∃ e es, a.py = e :: es) (pl : a.pl = true) (p pos : Pos) : CE (eCall op r) where
  py := .Call (.Name x p) a.py [] pos
  chk := fun L => bltB L x && a.chk L
  pl := rfl
  ok := fun L Φ X g q => by
    obtain ⟨q1, q2⟩ := ba q
    obtain ⟨g1, g2, g3, g4⟩ := bltB_ok g q1
    obtain ⟨e, es, he⟩ := ne
    have hp := a.plOk pl
    have ha := a.ok L Φ X g q2
    rw [he] at hp ha ⊢
    exact PE.weak (pe_callTy (h.ok X g.calm g.hu) g1 g2 hv ha g3 g4 (starEach_pl (hp e (by simp)) _ _) (plain_any (fun z hz => hp z (by simp [hz])) _ _)) call_weak
theorem CallR.imp {X : Cx} {f : Value} {r r' : List V → Hp → VK → Prop} (h : CallR X f r) (q : ∀ xs H Q, r' xs H Q → r xs H Q) : CallR X f r' :=
  fun pins s σ H xs us Q I rx z => h pins s σ H xs us Q I rx (q _ _ _ z)
theorem relDs_one {K : PySem.W.Frag} {ι : Ix} {H : Hp} {d : D} {vs : List V} (r : RelDs K ι H [d] vs) : ∃ v, vs = [v] ∧ RelD K ι H d v := by
  unfold RelDs at r
  obtain ⟨v, vr, e, r1, r2⟩ := r
  unfold RelDs at r2
  exact ⟨v, by rw [e, r2], r1⟩
theorem relDs_two {K : PySem.W.Frag} {ι : Ix} {H : Hp} {d e : D} {vs : List V} (r : RelDs K ι H [d, e] vs) : ∃ v u, vs = [v, u] ∧ RelD K ι H d v ∧ RelD K ι H e u := by
  unfold RelDs at r
  obtain ⟨v, vr, e, r1, r2⟩ := r
  obtain ⟨u, e2, r3⟩ := relDs_one r2
  exact ⟨v, u, by rw [e, e2], r1, r3⟩
/-- of one argument -/
def op1 (f : D → M D) (ds : List D) : M D := match ds with
  | [d] => f d
  | _ => M.bad
def op2 (f : D → D → M D) (ds : List D) : M D := match ds with
  | [d, e] => f d e
  | _ => M.bad
theorem COf.of1 {g : Value} {f : D → M D} (h : ∀ (X : Cx), X.calm = true → X.A.units + 100 < cLine → ∃ r, CallR X g r ∧ ∀ (d : D) (S : Store) (ι : Ix) (H : Hp) (v : V) (Q : VK), World X.K ι H S → RelD X.K ι H d v → Fin X.K (RelD X.K) ι H Q (f d S) → r [v] H Q) : COf g (op1 f) :=
  ⟨fun X hc hu => by
    obtain ⟨r, hr, q⟩ := h X hc hu
    refine CallR.imp hr fun xs H Q ⟨ds, S, ι, w, rd, fi⟩ => ?_
    unfold op1 at fi
    split at fi
    · obtain ⟨v, rfl, r1⟩ := relDs_one rd
      exact q _ S ι H v Q w r1 fi
    · exact fi.elim⟩
theorem COf.of2 {g : Value} {f : D → D → M D} (h : ∀ (X : Cx), X.calm = true → X.A.units + 100 < cLine → ∃ r, CallR X g r ∧ ∀ (d e : D) (S : Store) (ι : Ix) (H : Hp) (v u : V) (Q : VK), World X.K ι H S → RelD X.K ι H d v → RelD X.K ι H e u → Fin X.K (RelD X.K) ι H Q (f d e S) → r [v, u] H Q) : COf g (op2 f) :=
  ⟨fun X hc hu => by
    obtain ⟨r, hr, q⟩ := h X hc hu
    refine CallR.imp hr fun xs H Q ⟨ds, S, ι, w, rd, fi⟩ => ?_
    unfold op2 at fi
    split at fi
    · obtain ⟨v, u, rfl, r1, r2⟩ := relDs_two rd
      exact q _ _ S ι H v u Q w r1 r2 fi
    · exact fi.elim⟩
/-! len -/
def fLenS (d : D) : M D := fun S => match d with
  | .str s => if s.length ≤ 16777216 then .ok (.int (s.length : Nat)) S else .bad
  | _ => .bad
def fLen (d : D) : M D := fun S => match seqOf d S with
  | some xs => .ok (.int (xs.length : Nat)) S
  | none => fLenS d S
theorem cf_len : COf (.builtin "len") (op1 fLen) := .of1 fun X _ _ => ⟨_, call_len_seq.or call_len_str, fun d S ι H v Q w r f => by
  unfold fLen at f
  cases e : seqOf d S with
  | some xs =>
    rw [e] at f
    obtain ⟨a, vs, h1, h2, _, h4⟩ := seqOf_ok w r e
    subst h1
    refine .inl ⟨a, vs, rfl, h2, ?_⟩
    rw [h4.length]
    exact f.now w (relD_int.mpr rfl)
  | none =>
    rw [e] at f
    have f : Fin X.K (RelD X.K) ι H Q (fLenS d S) := f
    unfold fLenS at f
    split at f
    · rename_i s _
      by_cases hz : s.length ≤ 16777216
      · rw [if_pos hz] at f
        rw [relD_str.mp r]
        exact .inr ⟨s, rfl, by rw [sizeLine_eq]; exact hz, f.now w (relD_int.mpr rfl)⟩
      · rw [if_neg hz] at f; exact f.elim
    · exact f.elim⟩
/-! abs, int -/
def fAbs (d : D) : M D := fun S => match d with
  | .int i => .ok (.int (if i < 0 then -i else i)) S
  | _ => .bad
theorem cf_abs : COf (.builtin "abs") (op1 fAbs) := .of1 fun X _ _ => ⟨_, call_abs, fun d S ι H v Q w r f => by
  unfold fAbs at f
  split at f
  · rw [relD_int.mp r]; exact ⟨_, rfl, f.now w (relD_int.mpr rfl)⟩
  · exact f.elim⟩
def fInt (d : D) : M D := fun S => match d with
  | .int i => .ok (.int i) S
  | .bl k => .ok (.int (if k then 1 else 0)) S
  | _ => .bad
theorem cf_int : COf (.type "int") (op1 fInt) := .of1 fun X _ _ => ⟨_, call_int1, fun d S ι H v Q w r f => by
  unfold fInt at f
  split at f
  · rw [relD_int.mp r]; exact .inl ⟨_, rfl, f.now w (relD_int.mpr rfl)⟩
  · rw [relD_bl.mp r]; exact .inr ⟨_, rfl, f.now w (relD_int.mpr rfl)⟩
  · exact f.elim⟩
/-! list(x), tuple(x) -/
def fList (m : Bool) (d : D) : M D := fun S => match seqOf d S with
  | some xs => mkLst m xs S
  | none => .bad
theorem cf_list (m : Bool) : COf (.type "list") (op1 (fList m)) := .of1 fun X _ _ => ⟨_, call_list_of, fun d S ι H v Q w r f => by
  unfold fList at f
  cases e : seqOf d S with
  | some xs =>
    rw [e] at f
    obtain ⟨a, vs, h1, h2, h3, h4⟩ := seqOf_ok w r e
    subst h1
    exact ⟨a, vs, rfl, h2, fun p hp => Fin.mkNew f w h4 h3 p hp⟩
  | none => rw [e] at f; exact f.elim⟩
def fTuple (d : D) : M D := fun S => match d with
  | .tup xs => .ok (.tup xs) S
  | d => match lstOf d S with
    | some xs => .ok (.tup xs) S
    | none => .bad
theorem cf_tuple : COf (.type "tuple") (op1 fTuple) := .of1 fun X _ _ => ⟨_, call_tupleF, fun d S ι H v Q w r f => by
  unfold fTuple at f
  split at f
  · obtain ⟨a, vs, h1, h2, h3, h4⟩ := relD_tup.mp r
    rw [h1] at r ⊢
    exact ⟨a, vs, rfl, .inr ⟨h2.sq, f.now w r⟩⟩
  · cases e : lstOf d S with
    | some xs =>
      rw [e] at f
      obtain ⟨a, vs, h1, h2, h3, h4⟩ := lstOf_ok w r e
      subst h1
      exact ⟨a, vs, rfl, .inl ⟨h2, f.tupNew w h4 h3⟩⟩
    | none => rw [e] at f; exact f.elim⟩
/-! all, any: lists of bools -/
def bools : List D → Option (List Bool)
  | [] => some []
  | .bl b :: r => (bools r).map (b :: ·)
  | _ => none
def intsOf : List D → Option (List Int)
  | [] => some []
  | .int i :: r => (intsOf r).map (i :: ·)
  | _ => none
section
variable {K : PySem.W.Frag} {ι : Ix} {H : Hp}
theorem bools_ok : ∀ {ds : List D} {vs : List V} {bs : List Bool}, RelDs K ι H ds vs → bools ds = some bs → vs = bs.map V.bl ∧ ds = bs.map D.bl
  | [], vs, bs, r, e => by
    cases e
    unfold RelDs at r
    exact ⟨r, rfl⟩
  | d :: ds, vs, bs, r, e => by
    unfold RelDs at r
    obtain ⟨v, vr, e1, r1, r2⟩ := r
    cases d with
    | bl b =>
      unfold bools at e
      cases q : bools ds with
      | none => rw [q] at e; cases e
      | some cs =>
        rw [q] at e; cases e
        obtain ⟨h1, h2⟩ := bools_ok r2 q
        rw [e1, relD_bl.mp r1, h1, h2]
        exact ⟨rfl, rfl⟩
    | _ => cases e
theorem intsOf_ok : ∀ {ds : List D} {vs : List V} {bs : List Int}, RelDs K ι H ds vs → intsOf ds = some bs → vs = bs.map V.int ∧ ds = bs.map D.int
  | [], vs, bs, r, e => by
    cases e
    unfold RelDs at r
    exact ⟨r, rfl⟩
  | d :: ds, vs, bs, r, e => by
    unfold RelDs at r
    obtain ⟨v, vr, e1, r1, r2⟩ := r
    cases d with
    | int b =>
      unfold intsOf at e
      cases q : intsOf ds with
      | none => rw [q] at e; cases e
      | some cs =>
        rw [q] at e; cases e
        obtain ⟨h1, h2⟩ := intsOf_ok r2 q
        rw [e1, relD_int.mp r1, h1, h2]
        exact ⟨rfl, rfl⟩
    | _ => cases e
theorem relD_intl : ∀ ns : List Int, RelDs K ι H (ns.map D.int) (ns.map V.int) := RelDs.map fun i => relD_int.mpr rfl
end
def fBl (f : List Bool → Bool) (d : D) : M D := fun S => match lstOf d S with
  | some xs => match bools xs with
    | some bs => .ok (.bl (f bs)) S
    | none => .bad
  | none => .bad
theorem fBl_ok {K : PySem.W.Frag} {ι : Ix} {H : Hp} {S : Store} {Q : VK} {g : List Bool → Bool} {d : D} {v : V} (w : World K ι H S) (r : RelD K ι H d v) (f : Fin K (RelD K) ι H Q (fBl g d S)) : ∃ (a : Addr) (bs : List Bool), [v] = [V.ref a] ∧ SqL K H a (bs.map V.bl) ∧ Q (.bl (g bs)) H := by
  unfold fBl at f
  cases e : lstOf d S with
  | none => rw [e] at f; exact f.elim
  | some xs =>
    rw [e] at f
    have f : Fin K (RelD K) ι H Q (match bools xs with | some bs => .ok (.bl (g bs)) S | none => .bad) := f
    cases e2 : bools xs with
    | none => rw [e2] at f; exact f.elim
    | some bs =>
      rw [e2] at f
      obtain ⟨a, vs, h1, h2, _, h4⟩ := lstOf_ok w r e
      rw [(bools_ok h4 e2).1] at h2
      exact ⟨a, bs, by rw [h1], h2, f.now w (relD_bl.mpr rfl)⟩
def fAll : D → M D := fBl fun bs => bs.all id
def fAny : D → M D := fBl fun bs => bs.any id
theorem cf_all : COf (.builtin "all") (op1 fAll) := .of1 fun X hc _ => ⟨_, cr_all hc, fun d S ι H v Q w r f => fBl_ok w r f⟩
theorem cf_any : COf (.builtin "any") (op1 fAny) := .of1 fun X hc _ => ⟨_, cr_any hc, fun d S ι H v Q w r f => fBl_ok w r f⟩
/-! sum, sorted, max, min: ints -/
def fSum (d : D) : M D := fun S => match lstOf d S with
  | some xs => match intsOf xs with
    | some ns => .ok (.int ns.sum) S
    | none => .bad
  | none => .bad
theorem ints_at {K : PySem.W.Frag} {ι : Ix} {H : Hp} {S : Store} {γ δ : Type} {R2 : Ix → Hp → γ → δ → Prop} {Q : δ → Hp → Prop} {d : D} {v : V} {g : List Int → R γ} (w : World K ι H S) (r : RelD K ι H d v)
    (f : Fin K R2 ι H Q (match lstOf d S with | some xs => (match intsOf xs with | some ns => g ns | none => .bad) | none => .bad)) : ∃ (a : Addr) (ns : List Int), v = V.ref a ∧ SqL K H a (ns.map V.int) ∧ ns.length ≤ sizeLine ∧ Fin K R2 ι H Q (g ns) := by
  cases e : lstOf d S with
  | none => rw [e] at f; exact f.elim
  | some xs =>
    rw [e] at f
    have f : Fin K R2 ι H Q (match intsOf xs with | some ns => g ns | none => .bad) := f
    cases e2 : intsOf xs with
    | none => rw [e2] at f; exact f.elim
    | some bs =>
      rw [e2] at f
      obtain ⟨a, vs, h1, h2, h3, h4⟩ := lstOf_ok w r e
      rw [(intsOf_ok h4 e2).1] at h2 h3
      rw [List.length_map] at h3
      exact ⟨a, bs, h1, h2, h3, f⟩
theorem cf_sum : COf (.builtin "sum") (op1 fSum) := .of1 fun X hc _ => ⟨_, cr_sum hc, fun d S ι H v Q w r f => by
  unfold fSum at f
  obtain ⟨a, ns, h1, h2, _, f⟩ := ints_at (g := fun ns => R.ok (D.int ns.sum) S) w r f
  exact ⟨a, ns, by rw [h1], h2, f.now w (relD_int.mpr rfl)⟩⟩
def insI (a : Int) : List Int → List Int
  | [] => [a]
  | b :: r => if a ≤ b then a :: b :: r else b :: insI a r
def sortI : List Int → List Int
  | [] => []
  | a :: r => insI a (sortI r)
theorem insI_perm (a : Int) : ∀ l : List Int, (insI a l).Perm (a :: l)
  | [] => .refl _
  | b :: r => by
    unfold insI
    split
    · exact .refl _
    · exact ((insI_perm a r).cons b).trans (.swap a b r)
theorem sortI_perm : ∀ l : List Int, (sortI l).Perm l
  | [] => .refl _
  | a :: r => (insI_perm a _).trans ((sortI_perm r).cons a)
theorem insI_sorted (a : Int) : ∀ l : List Int, l.Pairwise (· ≤ ·) → (insI a l).Pairwise (· ≤ ·)
  | [], _ => by unfold insI; simp
  | b :: r, h => by
    unfold insI
    have h1 := List.pairwise_cons.mp h
    split
    · rename_i hab
      refine List.pairwise_cons.mpr ⟨fun c hc => ?_, h⟩
      rcases List.mem_cons.mp hc with rfl | hc
      · exact hab
      · exact Int.le_trans hab (h1.1 c hc)
    · rename_i hab
      refine List.pairwise_cons.mpr ⟨fun c hc => ?_, insI_sorted a r h1.2⟩
      rcases List.mem_cons.mp ((insI_perm a r).mem_iff.mp hc) with rfl | hc
      · omega
      · exact h1.1 c hc
theorem sortI_sorted : ∀ l : List Int, (sortI l).Pairwise (· ≤ ·)
  | [] => .nil
  | a :: r => insI_sorted a _ (sortI_sorted r)
theorem sorted_unique : ∀ {l m : List Int}, l.Perm m → l.Pairwise (· ≤ ·) → m.Pairwise (· ≤ ·) → l = m
  | [], m, p, _, _ => (List.nil_perm.mp p).symm
  | a :: l, [], p, _, _ => absurd (List.perm_nil.mp p) (by simp)
  | a :: l, b :: m, p, h, k => by
    have h1 := List.pairwise_cons.mp h
    have k1 := List.pairwise_cons.mp k
    have e : a = b := by
      have ha : a ∈ b :: m := p.mem_iff.mp (by simp)
      have hb : b ∈ a :: l := p.mem_iff.mpr (by simp)
      have x : b ≤ a := by
        rcases List.mem_cons.mp ha with e | q
        · omega
        · exact k1.1 a q
      have y : a ≤ b := by
        rcases List.mem_cons.mp hb with e | q
        · omega
        · exact h1.1 b q
      omega
    subst e
    rw [sorted_unique ((List.perm_cons a).mp p) h1.2 k1.2]
theorem sortI_of {l m : List Int} (p : m.Perm l) (h : m.Pairwise (· ≤ ·)) : m = sortI l := sorted_unique (p.trans (sortI_perm l).symm) h (sortI_sorted l)
/-! data in order -/
mutual
theorem toP_inj : ∀ (n : Nat) (d e : D), D.shp n d = true → D.shp n e = true → d.toP = e.toP → d = e
  | n, d, e, hd, he, h => by
    cases d with
    | tup xs =>
      cases e with
      | tup ys =>
        unfold D.toP at h
        cases n with
        | zero => unfold D.shp at hd; cases hd
        | succ n =>
          unfold D.shp at hd he
          rw [toPs_inj n xs ys hd he (by injection h)]
      | lst ys => unfold D.toP at h; cases h
      | rol ys => cases n <;> (unfold D.shp at he; cases he)
      | dct _ ys => cases n <;> (unfold D.shp at he; cases he)
      | tpk ys => cases n <;> (unfold D.shp at he; cases he)
      | ref ys => cases n <;> (unfold D.shp at he; cases he)
      | _ => unfold D.toP at h; cases h
    | lst xs =>
      cases e with
      | lst ys =>
        unfold D.toP at h
        cases n with
        | zero => unfold D.shp at hd; cases hd
        | succ n =>
          unfold D.shp at hd he
          rw [toPs_inj n xs ys hd he (by injection h)]
      | tup ys => unfold D.toP at h; cases h
      | rol ys => cases n <;> (unfold D.shp at he; cases he)
      | dct _ ys => cases n <;> (unfold D.shp at he; cases he)
      | tpk ys => cases n <;> (unfold D.shp at he; cases he)
      | ref ys => cases n <;> (unfold D.shp at he; cases he)
      | _ => unfold D.toP at h; cases h
    | rol ys => cases n <;> (unfold D.shp at hd; cases hd)
    | dct _ ys => cases n <;> (unfold D.shp at hd; cases hd)
    | tpk ys => cases n <;> (unfold D.shp at hd; cases hd)
    | ref ys => cases n <;> (unfold D.shp at hd; cases hd)
    | _ =>
      cases e with
      | rol ys => cases n <;> (unfold D.shp at he; cases he)
      | dct _ ys => cases n <;> (unfold D.shp at he; cases he)
      | tpk ys => cases n <;> (unfold D.shp at he; cases he)
      | ref ys => cases n <;> (unfold D.shp at he; cases he)
      | _ => unfold D.toP at h; cases h <;> rfl
theorem toPs_inj : ∀ (n : Nat) (ds es : List D), D.shps n ds = true → D.shps n es = true → D.toPs ds = D.toPs es → ds = es
  | n, [], [], _, _, _ => rfl
  | n, [], e :: es, _, _, h => by unfold D.toPs at h; cases h
  | n, d :: ds, [], _, _, h => by unfold D.toPs at h; cases h
  | n, d :: ds, e :: es, hd, he, h => by
    unfold D.shps at hd he
    unfold D.toPs at h
    obtain ⟨d1, d2⟩ := ba hd
    obtain ⟨e1, e2⟩ := ba he
    injection h with h1 h2
    rw [toP_inj n d e d1 e1 h1, toPs_inj n ds es d2 e2 h2]
end
theorem toPs_map : ∀ ds : List D, D.toPs ds = ds.map D.toP
  | [] => by unfold D.toPs; rfl
  | d :: r => by unfold D.toPs; rw [toPs_map r]; rfl
/-- tuples with an item at least, alike -/
def ordB (xs : List D) : Bool := D.shps 30 xs && ((xs.all fun d => xs.all fun e => PySem.W.alike d.toP e.toP) && xs.all fun d => match d with | .tup (_ :: _) => true | _ => false)
def leD (a b : D) : Bool := !ltD b a
theorem shps_mem {n : Nat} : ∀ {ds : List D} {d : D}, D.shps n ds = true → d ∈ ds → D.shp n d = true
  | _ :: r, d, h, hm => by
    unfold D.shps at h
    obtain ⟨h1, h2⟩ := ba h
    rcases List.mem_cons.mp hm with rfl | hm
    · exact h1
    · exact shps_mem h2 hm
theorem ordB_ok {xs : List D} (h : ordB xs = true) : D.shps 30 xs = true ∧ PySem.W.AllAlike (D.toPs xs) ∧ PySem.W.Sortable (D.toPs xs) ∧ PySem.W.AlikeAll (D.toPs xs) ∧ (∀ p ∈ D.toPs xs, p.depth ≤ 40) ∧ PyData.depthAll (D.toPs xs) ≤ 40 := by
  obtain ⟨h1, h⟩ := ba h
  obtain ⟨h2, h3⟩ := ba h
  have al : PySem.W.AllAlike (D.toPs xs) := by
    intro p hp q hq
    rw [toPs_map] at hp hq
    obtain ⟨d, hd, rfl⟩ := List.mem_map.mp hp
    obtain ⟨e, he, rfl⟩ := List.mem_map.mp hq
    exact List.all_eq_true.mp (List.all_eq_true.mp h2 d hd) e he
  have tu : ∀ p ∈ D.toPs xs, ∃ x r, p = .tuple (x :: r) := by
    intro p hp
    rw [toPs_map] at hp
    obtain ⟨d, hd, rfl⟩ := List.mem_map.mp hp
    have q := List.all_eq_true.mp h3 d hd
    match d, q with
    | .tup (a :: r), _ => exact ⟨a.toP, D.toPs r, rfl⟩
  refine ⟨h1, al, .inl tu, ⟨fun x hx y hy => al x hx y hy, fun x hx e => ?_⟩, fun p hp => ?_, ?_⟩
  · obtain ⟨y, r, h⟩ := tu x hx
    rw [e] at h; cases h
  · rw [toPs_map] at hp
    obtain ⟨d, hd, rfl⟩ := List.mem_map.mp hp
    have := (D.toP_ok 30 d (shps_mem h1 hd)).2
    omega
  · have := (D.toPs_ok 30 xs h1).2
    omega
theorem relDs_zip {K : PySem.W.Frag} {ι : Ix} {H : Hp} : ∀ {ds : List D} {vs : List V}, RelDs K ι H ds vs → ∀ p ∈ vs.zip ds, RelD K ι H p.2 p.1
  | [], vs, r, p, hp => by rw [List.zip_nil_right] at hp; cases hp
  | d :: ds, vs, r, p, hp => by
    unfold RelDs at r
    obtain ⟨v, vr, rfl, r1, r2⟩ := r
    rw [List.zip_cons_cons] at hp
    rcases List.mem_cons.mp hp with rfl | hp
    · exact r1
    · exact relDs_zip r2 p hp
theorem relDs_of {K : PySem.W.Frag} {ι : Ix} {H : Hp} : ∀ {zs : List (V × D)}, (∀ p ∈ zs, RelD K ι H p.2 p.1) → RelDs K ι H (zs.map fun p => p.2) (zs.map fun p => p.1)
  | [], _ => by unfold RelDs; rfl
  | z :: zs, h => by
    rw [List.map_cons, List.map_cons]
    unfold RelDs
    exact ⟨_, _, rfl, h z List.mem_cons_self, relDs_of fun p hp => h p (List.mem_cons_of_mem _ hp)⟩
theorem relDs_sort {K : PySem.W.Frag} {ι : Ix} {H : Hp} {xs : List D} {vs : List V} (r : RelDs K ι H xs vs) : RelDs K ι H (xs.mergeSort leD) (((vs.zip (D.toPs xs)).mergeSort (PySem.W.dataLe false fun b => b.2)).map fun b => b.1) := by
  have hl := r.length
  have e1 : (vs.zip xs).map (fun p : V × D => p.2) = xs := List.map_snd_zip (by omega)
  have e2 : vs.zip (D.toPs xs) = (vs.zip xs).map fun p : V × D => (p.1, p.2.toP) := by
    rw [toPs_map, List.zip_map_right]; rfl
  have s1 : xs.mergeSort leD = ((vs.zip xs).mergeSort fun p q => leD p.2 q.2).map fun p => p.2 := by
    conv => lhs; rw [← e1]
    exact (List.map_mergeSort (f := fun p : V × D => p.2) (r := fun p q => leD p.2 q.2) (s := leD) fun _ _ _ _ => rfl).symm
  have s2 : ((vs.zip (D.toPs xs)).mergeSort (PySem.W.dataLe false fun b => b.2)).map (fun b => b.1) = ((vs.zip xs).mergeSort fun p q => leD p.2 q.2).map fun p => p.1 := by
    rw [e2, ← List.map_mergeSort (r := fun p q : V × D => leD p.2 q.2) (f := fun p : V × D => (p.1, p.2.toP)) fun _ _ _ _ => rfl, List.map_map]
    rfl
  rw [s1, s2]
  exact relDs_of fun p hp => relDs_zip r p (List.mem_mergeSort.mp hp)
def fSorted (m : Bool) (d : D) : M D := fun S => match seqOf d S with
  | some xs => match intsOf xs with
    | some ns => mkLst m ((sortI ns).map D.int) S
    | none => match lstOf d S with
      | some ys => if ordB ys then mkLst m (ys.mergeSort leD) S else .bad
      | none => .bad
  | none => .bad
theorem cf_sorted (m : Bool) : COf (.builtin "sorted") (op1 (fSorted m)) := .of1 fun X hc hu => ⟨_, cr_sortedI.or (cr_sortedIT.or (cr_srtD hu)), fun d S ι H v Q w r f => by
  unfold fSorted at f
  cases e : seqOf d S with
  | none => rw [e] at f; exact f.elim
  | some xs =>
    rw [e] at f
    have f : Fin X.K (RelD X.K) ι H Q (match intsOf xs with | some ns => mkLst m ((sortI ns).map D.int) S | none => match lstOf d S with | some ys => if ordB ys then mkLst m (ys.mergeSort leD) S else .bad | none => .bad) := f
    cases e2 : intsOf xs with
    | none =>
      rw [e2] at f
      have f : Fin X.K (RelD X.K) ι H Q (match lstOf d S with | some ys => if ordB ys then mkLst m (ys.mergeSort leD) S else .bad | none => .bad) := f
      cases e3 : lstOf d S with
      | none => rw [e3] at f; exact f.elim
      | some ys =>
        rw [e3] at f
        have f : Fin X.K (RelD X.K) ι H Q (if ordB ys then mkLst m (ys.mergeSort leD) S else .bad) := f
        by_cases ho : ordB ys = true
        · rw [if_pos ho] at f
          obtain ⟨h1, h2, h3, _, h5, _⟩ := ordB_ok ho
          obtain ⟨a, vs, hv, hs, hz, hr⟩ := lstOf_ok w r e3
          refine .inr (.inr ⟨a, vs, D.toPs ys, by rw [hv], hs, D.dps 30 _ h1 hr, h2, h3, h5, hz, fun q hq => ?_⟩)
          refine Fin.mkNew f w (relDs_sort hr) ?_ q hq
          rw [List.length_map, List.length_mergeSort, List.length_zip]
          omega
        · rw [if_neg ho] at f; exact f.elim
    | some ns =>
      rw [e2] at f
      obtain ⟨a, vs, h1, h2, h3, h4⟩ := seqOf_ok w r e
      rw [(intsOf_ok h4 e2).1] at h2 h3
      rw [List.length_map] at h3
      subst h1
      have fin : ∀ (ns' : List Int) (p : Addr), ns'.Perm ns → ns'.Pairwise (· ≤ ·) → H p = none → Q (.ref p) (upd H p (.lst (ns'.map V.int))) := fun ns' p hp hs hn => by
        rw [sortI_of hp hs]
        exact Fin.mkNew f w (relD_intl _) (by rw [List.length_map, (sortI_perm ns).length_eq]; exact h3) p hn
      rcases h2 with h2 | h2
      · exact .inl ⟨a, ns, rfl, h2, fin⟩
      · exact .inr (.inl ⟨a, ns, rfl, h2, fin⟩)⟩
def maxI : List Int → Option Int
  | [] => none
  | a :: r => some (r.foldl (fun x y => if y > x then y else x) a)
def minI : List Int → Option Int
  | [] => none
  | a :: r => some (r.foldl (fun x y => if y < x then y else x) a)
theorem foldmax : ∀ (r : List Int) (a : Int), (r.foldl (fun x y => if y > x then y else x) a) ∈ a :: r ∧ ∀ y ∈ a :: r, y ≤ r.foldl (fun x y => if y > x then y else x) a
  | [], a => by simp
  | b :: r, a => by
    rw [List.foldl_cons]
    obtain ⟨h1, h2⟩ := foldmax r (if b > a then b else a)
    refine ⟨?_, fun y hy => ?_⟩
    · rcases List.mem_cons.mp h1 with e | h
      · rw [e]; split <;> simp
      · simp [h]
    · have z := h2 (if b > a then b else a) (by simp)
      rcases List.mem_cons.mp hy with rfl | hy
      · refine Int.le_trans ?_ z; split <;> omega
      · rcases List.mem_cons.mp hy with rfl | hy
        · refine Int.le_trans ?_ z; split <;> omega
        · exact h2 y (by simp [hy])
theorem foldmin : ∀ (r : List Int) (a : Int), (r.foldl (fun x y => if y < x then y else x) a) ∈ a :: r ∧ ∀ y ∈ a :: r, r.foldl (fun x y => if y < x then y else x) a ≤ y
  | [], a => by simp
  | b :: r, a => by
    rw [List.foldl_cons]
    obtain ⟨h1, h2⟩ := foldmin r (if b < a then b else a)
    refine ⟨?_, fun y hy => ?_⟩
    · rcases List.mem_cons.mp h1 with e | h
      · rw [e]; split <;> simp
      · simp [h]
    · have z := h2 (if b < a then b else a) (by simp)
      rcases List.mem_cons.mp hy with rfl | hy
      · refine Int.le_trans z ?_; split <;> omega
      · rcases List.mem_cons.mp hy with rfl | hy
        · refine Int.le_trans z ?_; split <;> omega
        · exact h2 y (by simp [hy])
def leastD : List D → Option D
  | [] => none
  | x :: r => some (r.foldl (fun a y => if ltD y a then y else a) x)
def mostD : List D → Option D
  | [] => none
  | x :: r => some (r.foldl (fun a y => if ltD a y then y else a) x)
def topT (g : List Int → Option Int) (d : D) : M D := fun S => match d with
  | .tup xs => match intsOf xs with
    | some ns => (match g ns with | some k => .ok (.int k) S | none => .bad)
    | none => .bad
  | .tpk xs => match intsOf xs with
    | some ns => (match g ns with | some k => .ok (.int k) S | none => .bad)
    | none => .bad
  | _ => .bad
def fMax1 (d : D) : M D := fun S => match lstOf d S with
  | some xs => match intsOf xs with
    | some ns => (match maxI ns with | some k => .ok (.int k) S | none => .bad)
    | none => if ordB xs then (match mostD xs with | some x => .ok x S | none => .bad) else .bad
  | none => topT maxI d S
def fMin1 (d : D) : M D := fun S => match lstOf d S with
  | some xs => match intsOf xs with
    | some ns => (match minI ns with | some k => .ok (.int k) S | none => .bad)
    | none => if ordB xs then (match leastD xs with | some x => .ok x S | none => .bad) else .bad
  | none => topT minI d S
theorem topT_ok {K : PySem.W.Frag} {ι : Ix} {H : Hp} {S : Store} {Q : VK} {d : D} {v : V} {g : List Int → Option Int} {f' : Int → Int → Int} (hg : ∀ n ns, g (n :: ns) = some (ns.foldl f' n)) (h0 : g [] = none) (w : World K ι H S) (r : RelD K ι H d v) (f : Fin K (RelD K) ι H Q (topT g d S)) : rTopT K f' [v] H Q := by
  cases d with
  | tup xs =>
    have f : Fin K (RelD K) ι H Q (match intsOf xs with | some ns => (match g ns with | some k => R.ok (D.int k) S | none => R.bad) | none => R.bad) := f
    cases e : intsOf xs with
    | none => rw [e] at f; exact f.elim
    | some ns =>
      rw [e] at f
      have f : Fin K (RelD K) ι H Q (match g ns with | some k => R.ok (D.int k) S | none => R.bad) := f
      cases ns with
      | nil => rw [h0] at f; exact f.elim
      | cons n ns =>
        rw [hg] at f
        have f : Fin K (RelD K) ι H Q (R.ok (D.int (ns.foldl f' n)) S) := f
        obtain ⟨a, vs, h1, h2, h3, h4⟩ := relD_tup.mp r
        refine ⟨a, n, ns, by rw [h1], ?_, f.now w (relD_int.mpr rfl)⟩
        rw [← (intsOf_ok h4 e).1]; exact h2.sq
  | tpk xs =>
    have f : Fin K (RelD K) ι H Q (match intsOf xs with | some ns => (match g ns with | some k => R.ok (D.int k) S | none => R.bad) | none => R.bad) := f
    cases e : intsOf xs with
    | none => rw [e] at f; exact f.elim
    | some ns =>
      rw [e] at f
      have f : Fin K (RelD K) ι H Q (match g ns with | some k => R.ok (D.int k) S | none => R.bad) := f
      cases ns with
      | nil => rw [h0] at f; exact f.elim
      | cons n ns =>
        rw [hg] at f
        have f : Fin K (RelD K) ι H Q (R.ok (D.int (ns.foldl f' n)) S) := f
        obtain ⟨a, vs, h1, h2, h3, h4⟩ := relD_tpk.mp r
        refine ⟨a, n, ns, by rw [h1], ?_, f.now w (relD_int.mpr rfl)⟩
        rw [← (intsOf_ok h4 e).1]; exact h2
  | _ => exact f.elim
theorem maxI_max (n : Int) (ns : List Int) : maxI (n :: ns) = some (ns.foldl max n) := by
  have e : (fun x y : Int => if y > x then y else x) = max := by
    funext x y
    rw [Int.max_def]; split <;> split <;> omega
  show some (ns.foldl (fun x y : Int => if y > x then y else x) n) = _
  rw [e]
theorem minI_min (n : Int) (ns : List Int) : minI (n :: ns) = some (ns.foldl min n) := by
  have e : (fun x y : Int => if y < x then y else x) = min := by
    funext x y
    rw [Int.min_def]; split <;> split <;> omega
  show some (ns.foldl (fun x y : Int => if y < x then y else x) n) = _
  rw [e]
theorem fold_toP (lt : D → D → Bool) (lt' : PyData → PyData → Bool) (h : ∀ a b, lt a b = lt' a.toP b.toP) : ∀ (r : List D) (x : D), (r.foldl (fun a y => if lt y a then y else a) x).toP = (D.toPs r).foldl (fun a y => if lt' y a then y else a) x.toP
  | [], x => by unfold D.toPs; rfl
  | y :: r, x => by
    unfold D.toPs
    rw [List.foldl_cons, List.foldl_cons, fold_toP lt lt' h r, h]
    split <;> rfl
theorem fold_mem (lt : D → D → Bool) : ∀ (r : List D) (x : D), (r.foldl (fun a y => if lt y a then y else a) x) ∈ x :: r
  | [], x => by simp
  | y :: r, x => by
    rw [List.foldl_cons]
    have := fold_mem lt r (if lt y x then y else x)
    rcases List.mem_cons.mp this with e | h
    · rw [e]; split <;> simp
    · simp [h]
theorem leastD_ok {xs : List D} {y : D} (h : leastD xs = some y) : y ∈ xs ∧ minL (D.toPs xs) = some y.toP := by
  cases xs with
  | nil => cases h
  | cons x r =>
    cases h
    refine ⟨fold_mem ltD r x, ?_⟩
    unfold D.toPs minL
    rw [fold_toP ltD PySem.W.dataLt (fun _ _ => rfl)]; rfl
theorem mostD_ok {xs : List D} {y : D} (h : mostD xs = some y) : y ∈ xs ∧ maxL (D.toPs xs) = some y.toP := by
  cases xs with
  | nil => cases h
  | cons x r =>
    cases h
    refine ⟨fold_mem (fun a b => ltD b a) r x, ?_⟩
    unfold D.toPs maxL
    rw [fold_toP (fun a b => ltD b a) (fun a b => PySem.W.dataLt b a) (fun _ _ => rfl)]; rfl
theorem rel_ix {K : PySem.W.Frag} {ι : Ix} {H : Hp} {xs : List D} {vs : List V} {y : D} {i : Nat} {v : V} (r : RelDs K ι H xs vs) (h1 : D.shps 30 xs = true) (hy : y ∈ xs) (hv : vs[i]? = some v) (hp : (D.toPs xs)[i]? = some y.toP) : RelD K ι H y v := by
  rw [toPs_map, List.getElem?_map] at hp
  cases e : xs[i]? with
  | none => rw [e] at hp; cases hp
  | some z =>
    rw [e] at hp
    have hz : z ∈ xs := List.mem_of_getElem? e
    have e2 : z = y := toP_inj 30 z y (shps_mem h1 hz) (shps_mem h1 hy) (by injection hp)
    subst e2
    obtain ⟨w, q1, q2⟩ := r.get e
    rw [hv] at q1; cases q1; exact q2
theorem dat_at {K : PySem.W.Frag} {ι : Ix} {H : Hp} {S : Store} {Q : VK} {d : D} {v : V} {xs : List D} {g : List D → Option D} {f' : List PyData → Option PyData} (hg : ∀ {xs : List D} {y : D}, g xs = some y → y ∈ xs ∧ f' (D.toPs xs) = some y.toP) (w : World K ι H S) (r : RelD K ι H d v) (e : lstOf d S = some xs)
    (f : Fin K (RelD K) ι H Q (if ordB xs then (match g xs with | some x => R.ok x S | none => R.bad) else R.bad)) : rMinD K f' [v] H Q := by
  by_cases ho : ordB xs = true
  · rw [if_pos ho] at f
    obtain ⟨h1, _, _, h4, _, h6⟩ := ordB_ok ho
    obtain ⟨a, vs, hv, hs, hz, hr⟩ := lstOf_ok w r e
    cases hq : g xs with
    | none => rw [hq] at f; exact f.elim
    | some y =>
      rw [hq] at f
      have f : Fin K (RelD K) ι H Q (R.ok y S) := f
      obtain ⟨g1, g2⟩ := hg hq
      refine ⟨a, vs, D.toPs xs, by rw [hv], hs, D.dps 30 _ h1 hr, ?_, h4, h6, fun i u hi hp => f.now w (rel_ix hr h1 g1 hi (by rw [hp, g2]))⟩
      intro z
      cases xs with
      | nil => cases g1
      | cons x r => unfold D.toPs at z; cases z
  · rw [if_neg ho] at f; exact f.elim
theorem cf_max1 : COf (.builtin "max") (op1 fMax1) := .of1 fun X hc hu => ⟨_, ((cr_max hc).or (cr_maxDt hc hu)).or (cr_maxT hc hu), fun d S ι H v Q w r f => by
  unfold fMax1 at f
  cases e : lstOf d S with
  | none => rw [e] at f; exact .inr (topT_ok (fun _ _ => maxI_max _ _) rfl w r f)
  | some xs =>
    left
    cases e2 : intsOf xs with
    | none =>
      rw [e] at f
      have f : Fin X.K (RelD X.K) ι H Q (match intsOf xs with | some ns => (match maxI ns with | some k => R.ok (D.int k) S | none => R.bad) | none => if ordB xs then (match mostD xs with | some x => R.ok x S | none => R.bad) else R.bad) := f
      rw [e2] at f
      exact .inr (dat_at (fun h => mostD_ok h) w r e f)
    | some ns0 =>
      left
      have f : Fin X.K (RelD X.K) ι H Q (match lstOf d S with | some xs => (match intsOf xs with | some ns => (match maxI ns with | some k => R.ok (D.int k) S | none => R.bad) | none => R.bad) | none => R.bad) := by
        rw [e] at f ⊢
        show Fin X.K (RelD X.K) ι H Q (match intsOf xs with | some ns => (match maxI ns with | some k => R.ok (D.int k) S | none => R.bad) | none => R.bad)
        have f : Fin X.K (RelD X.K) ι H Q (match intsOf xs with | some ns => (match maxI ns with | some k => R.ok (D.int k) S | none => R.bad) | none => if ordB xs then (match mostD xs with | some x => R.ok x S | none => R.bad) else R.bad) := f
        rw [e2] at f ⊢
        exact f
      obtain ⟨a, ns, h1, h2, _, f⟩ := ints_at (g := fun ns => match maxI ns with | some k => R.ok (D.int k) S | none => R.bad) w r f
      cases ns with
      | nil => exact f.elim
      | cons b ns =>
        refine ⟨a, b :: ns, by rw [h1], h2, by simp, fun m hm hm2 => ?_⟩
        obtain ⟨k1, k2⟩ := foldmax ns b
        have e : m = ns.foldl (fun x y => if y > x then y else x) b := Int.le_antisymm (k2 m hm) (hm2 _ k1)
        rw [e]
        exact f.now w (relD_int.mpr rfl)⟩
theorem cf_min1 : COf (.builtin "min") (op1 fMin1) := .of1 fun X hc hu => ⟨_, ((cr_min hc).or (cr_minDt hc hu)).or (cr_minT hc hu), fun d S ι H v Q w r f => by
  unfold fMin1 at f
  cases e : lstOf d S with
  | none => rw [e] at f; exact .inr (topT_ok (fun _ _ => minI_min _ _) rfl w r f)
  | some xs =>
    left
    cases e2 : intsOf xs with
    | none =>
      rw [e] at f
      have f : Fin X.K (RelD X.K) ι H Q (match intsOf xs with | some ns => (match minI ns with | some k => R.ok (D.int k) S | none => R.bad) | none => if ordB xs then (match leastD xs with | some x => R.ok x S | none => R.bad) else R.bad) := f
      rw [e2] at f
      exact .inr (dat_at (fun h => leastD_ok h) w r e f)
    | some ns0 =>
      left
      have f : Fin X.K (RelD X.K) ι H Q (match lstOf d S with | some xs => (match intsOf xs with | some ns => (match minI ns with | some k => R.ok (D.int k) S | none => R.bad) | none => R.bad) | none => R.bad) := by
        rw [e] at f ⊢
        show Fin X.K (RelD X.K) ι H Q (match intsOf xs with | some ns => (match minI ns with | some k => R.ok (D.int k) S | none => R.bad) | none => R.bad)
        have f : Fin X.K (RelD X.K) ι H Q (match intsOf xs with | some ns => (match minI ns with | some k => R.ok (D.int k) S | none => R.bad) | none => if ordB xs then (match leastD xs with | some x => R.ok x S | none => R.bad) else R.bad) := f
        rw [e2] at f ⊢
        exact f
      obtain ⟨a, ns, h1, h2, _, f⟩ := ints_at (g := fun ns => match minI ns with | some k => R.ok (D.int k) S | none => R.bad) w r f
      cases ns with
      | nil => exact f.elim
      | cons b ns =>
        refine ⟨a, b :: ns, by rw [h1], h2, by simp, fun m hm hm2 => ?_⟩
        obtain ⟨k1, k2⟩ := foldmin ns b
        have e : m = ns.foldl (fun x y => if y < x then y else x) b := Int.le_antisymm (hm2 _ k1) (k2 m hm)
        rw [e]
        exact f.now w (relD_int.mpr rfl)⟩
def fMax2 (x y : D) : M D := fun S => match x, y with
  | .int i, .int j => .ok (.int (if j > i then j else i)) S
  | _, _ => .bad
def fMin2 (x y : D) : M D := fun S => match x, y with
  | .int i, .int j => .ok (.int (if j < i then j else i)) S
  | _, _ => .bad
theorem cf_max2 : COf (.builtin "max") (op2 fMax2) := .of2 fun X hc _ => ⟨_, call_max2 hc, fun d e S ι H v u Q w r1 r2 f => by
  unfold fMax2 at f
  split at f
  · rw [relD_int.mp r1, relD_int.mp r2]; exact ⟨_, _, rfl, f.now w (relD_int.mpr rfl)⟩
  · exact f.elim⟩
theorem cf_min2 : COf (.builtin "min") (op2 fMin2) := .of2 fun X hc _ => ⟨_, call_min2 hc, fun d e S ι H v u Q w r1 r2 f => by
  unfold fMin2 at f
  split at f
  · rw [relD_int.mp r1, relD_int.mp r2]; exact ⟨_, _, rfl, f.now w (relD_int.mpr rfl)⟩
  · exact f.elim⟩
def fDivmod (x y : D) : M D := fun S => match x, y with
  | .int i, .int j => if 0 < j ∧ j < 1073741824 then .ok (.tup [.int (i / j), .int (i % j)]) S else .bad
  | _, _ => .bad
theorem cf_divmod : COf (.builtin "divmod") (op2 fDivmod) := .of2 fun X hc _ => ⟨_, call_divmodF, fun d e S ι H v u Q w r1 r2 f => by
  unfold fDivmod at f
  split at f
  · rename_i i j
    by_cases h : 0 < j ∧ j < 1073741824
    · rw [if_pos h] at f
      rw [relD_int.mp r1, relD_int.mp r2]
      exact ⟨i, j, rfl, h, f.tupNew w (.cons (relD_int.mpr rfl) (.cons (relD_int.mpr rfl) .nil)) (by simp only [List.length_cons, List.length_nil]; rw [sizeLine_eq]; decide)⟩
    · rw [if_neg h] at f; exact f.elim
  · exact f.elim⟩
end G
end

section
set_option Elab.async false
set_option linter.all false
set_option maxRecDepth 100000
namespace G
open PySem PySem.Spec PyProof.Rows L2

/-! ### the program's own functions -/
def eFn (i : Nat) (r : Ph → Ro → M (List D)) : Ev := fun Φ ρ => (r Φ ρ).bind (Φ i)
def cFn {r : Ph → Ro → M (List D)} (i : Nat) (x : Str) (ps : List Str) (a : CA r) (ne : ∃ e es, a.py = e :: es) (pl : a.pl = true) (hl : a.py.length = ps.length) (p pos : Pos) : CE (eFn i r) where
  py := .Call (.Name x p) a.py [] pos
  chk := fun L => decide (L.I.fns[i]? = some (x, ps)) && (glB L.sc x && (nameOk x && a.chk L))
  pl := rfl
  ok := fun L Φ X g q => by
    obtain ⟨q1, q2⟩ := ba q
    obtain ⟨q2, q3⟩ := ba q2
    obtain ⟨q3, q4⟩ := ba q3
    obtain ⟨n1, _, _⟩ := nameOk_ok q3
    obtain ⟨e, es, he⟩ := ne
    have hp := a.plOk pl
    have ha := a.ok L Φ X g q4
    have hlen := a.len pl
    obtain ⟨k, hr, hf⟩ := g.fns
    obtain ⟨f, fd, m1, m2, m3, _, m4⟩ := (hf i x ps (of_decide_eq_true q1)).ex
    rw [he] at hp ha hl hlen ⊢
    refine PE.weak (pe_call m4 hr (g.gl q2) m1 m2 m3 .nil pass0 ha n1 (starEach_pl (hp e (by simp)) _ _) (plain_any (fun z hz => hp z (by simp [hz])) _ _)) fun σ H Q ⟨ρ, S, ι, w, en, f⟩ => ?_
    refine ⟨ρ, S, ι, w, en, Fin.bindE f fun ds S1 ι1 H1 vs e0 e1 w1 r1 f1 => ?_⟩
    rw [List.append_nil]
    exact ⟨by rw [r1.length, hlen _ _ _ _ _ e0, hl], ds, S1, ι1, w1, r1, f1⟩
def cFn0 (i : Nat) (x : Str) (p pos : Pos) : CE (eFn i aNil) where
  py := .Call (.Name x p) [] [] pos
  chk := fun L => decide (L.I.fns[i]? = some (x, [])) && (glB L.sc x && nameOk x)
  pl := rfl
  ok := fun L Φ X g q => by
    obtain ⟨q1, q2⟩ := ba q
    obtain ⟨q2, q3⟩ := ba q2
    obtain ⟨n1, _, _⟩ := nameOk_ok q3
    obtain ⟨k, hr, hf⟩ := g.fns
    obtain ⟨f, fd, m1, m2, m3, _, m4⟩ := (hf i x [] (of_decide_eq_true q1)).ex
    refine PE.weak (pe_call0 m4 hr (g.gl q2) m1 m2 m3 .nil pass0 n1) fun σ H Q ⟨ρ, S, ι, w, en, f⟩ => ?_
    exact ⟨rfl, [], S, ι, w, .nil, f⟩
/-! keywords -/
structure CK (ev : Ph → Ro → M (List D)) where
  py : List Keyword
  ks : List Str
  chk : Lx → Bool
  hk : ∀ (pos : Pos) (env : Env), (backToKw pos (keywordEach py env)).all (·.1.isSome) = true ∧ (backToKw pos (keywordEach py env)).filterMap (·.1) = ks ∧ (backToKw pos (keywordEach py env)).any (·.1.isNone) = false
  len : ∀ (Φ : Ph) (ρ : Ro) (S : Store) (ds : List D) (S' : Store), ev Φ ρ S = .ok ds S' → ds.length = ks.length
  ok : ∀ (L : Lx) (Φ : Ph) (X : Cx), Gd L Φ X → chk L = true → PK X py (tA X.K (ev Φ))
theorem PK.weak {X : Cx} {e : List Keyword} {t t' : TA} (h : PK X e t) (w : ∀ σ H Q, t' σ H Q → t σ H Q) : PK X e t' := ⟨fun pos pins s σ H Q I q => h.run pos pins s σ H Q I (w _ _ _ q)⟩
def ckNil : CK aNil where
  py := []
  ks := []
  chk := fun _ => true
  hk := fun _ _ => ⟨rfl, rfl, rfl⟩
  len := fun Φ ρ S ds S' h => by cases h; rfl
  ok := fun L Φ X g q => PK.weak pk_nil fun σ H Q ⟨ρ, S, ι, w, e, f⟩ => f.now w .nil
def ckCons {e : Ev} {r : Ph → Ro → M (List D)} (nm : Str) (a : CE e) (b : CK r) (kpos : Pos) : CK (aCons e r) where
  py := ⟨some nm, a.py, kpos⟩ :: b.py
  ks := nm :: b.ks
  chk := fun L => a.chk L && b.chk L
  hk := fun pos env => by
    obtain ⟨h1, h2, h3⟩ := b.hk pos env
    refine ⟨?_, ?_, ?_⟩
    · show (((some nm : Option Str), _) :: backToKw pos (keywordEach b.py env)).all (·.1.isSome) = true
      rw [List.all_cons, h1]; rfl
    · show (((some nm : Option Str), _) :: backToKw pos (keywordEach b.py env)).filterMap (·.1) = nm :: b.ks
      rw [List.filterMap_cons, h2]
    · show (((some nm : Option Str), _) :: backToKw pos (keywordEach b.py env)).any (·.1.isNone) = false
      rw [List.any_cons, h3]; rfl
  len := fun Φ ρ S ds S' q => by
    obtain ⟨d, S1, e1, q⟩ := M.bind_inv q
    obtain ⟨es, S2, e2, q⟩ := M.bind_inv q
    cases q
    rw [List.length_cons, List.length_cons, b.len Φ ρ S1 es _ e2]
  ok := fun L Φ X g q => by
    obtain ⟨q1, q2⟩ := ba q
    exact PK.weak (pk_cons (a.ok L Φ X g q1) (b.ok L Φ X g q2)) fun σ H Q ⟨ρ, S, ι, w, e, f⟩ =>
      ⟨ρ, S, ι, w, e, Fin.bind f fun d S1 ι1 H1 v e1 w1 r1 f1 => ⟨ρ, S1, ι1, w1, e.mono e1, Fin.bind f1 fun ds S2 ι2 H2 vs e2 w2 r2 f2 => f2.now w2 (.cons (r1.mono e2) r2)⟩⟩
theorem RelDs.arr {K : PySem.W.Frag} {ι : Ix} {H : Hp} {ds es : List D} {vs us : List V} (h : RelDs K ι H ds vs) (t : RelDs K ι H es us) (ps : List Str) (n : Nat) (ks : List Str) : RelDs K ι H (G.arr ps n ks ds es) (G.arr ps n ks vs us) := by
  unfold G.arr
  refine h.append ?_
  have look : ∀ (ks : List Str) (es : List D) (us : List V), RelDs K ι H es us → ∀ p : Str, (((ks.zip es).lookup p) = none ∧ ((ks.zip us).lookup p) = none) ∨ ∃ d v, ((ks.zip es).lookup p) = some d ∧ ((ks.zip us).lookup p) = some v ∧ RelD K ι H d v := by
    intro ks
    induction ks with
    | nil => intro es us _ p; exact .inl ⟨rfl, rfl⟩
    | cons k ks ih =>
      intro es us r p
      cases es with
      | nil => unfold RelDs at r; subst r; exact .inl ⟨rfl, rfl⟩
      | cons d es =>
        unfold RelDs at r
        obtain ⟨v, vr, e, r1, r2⟩ := r
        subst e
        rw [List.zip_cons_cons, List.zip_cons_cons, List.lookup_cons, List.lookup_cons]
        cases hb : p == k with
        | true => exact .inr ⟨d, v, rfl, rfl, r1⟩
        | false => exact ih es vr r2 p
  generalize ps.drop n = l
  induction l with
  | nil => exact .nil
  | cons p l ih =>
    rw [List.filterMap_cons, List.filterMap_cons]
    rcases look ks es us t p with ⟨a, b⟩ | ⟨d, v, a, b, r⟩
    · rw [a, b]; exact ih
    · rw [a, b]; exact .cons r ih
theorem pe_callN0 {X : Cx} {CX : CXT} {k : Nat} {f : Addr} {fd : FuncData} {ps ks : List Str} {sp : Sp} {E : XK} {x : Str} {p pos : Pos} {kws : List Keyword} {tk : TA} {g : List Value → List Value → List Value} {gV : List V → List V → List V} (F : FnOk X.prog X.w X.K X.mg X.base CX k f fd ps sp) (hr : Room k X.A) (hg : Gl X x) (hm : X.mg x = some (.ref f)) (hk : PySem.W.keepIn X.K (.ref f) = true) (hb : KBn X.K fd ps 0 ks g gV) (hx : Passes CX X E)
    (hkw : PK X kws tk) (hall : (backToKw pos (keywordEach kws X.env)).all (·.1.isSome) = true) (hks : (backToKw pos (keywordEach kws X.env)).filterMap (·.1) = ks)
    (hdb : (x == ("__debug__" : Str)) = false) (hpl : ((backTo pos (starEach [] X.env)).any (·.1) || (backToKw pos (keywordEach kws X.env)).any (·.1.isNone)) = false) :
    PE X (.Call (.Name x p) [] kws pos) (fun σ H Q => tk σ H fun zs H2 => zs.length = ks.length ∧ sp (gV [] zs) H2 Q E) := by
  refine ⟨fun pins s σ H Q I h => ?_⟩
  refine wpAny_Call_Name_kw (ld_glob I hg hm ?_ hdb)
  refine PySem.W.callWith_KW0 (h₀ := X.base) I.ok.mod.kin hk hall ?_ hpl
  refine thn (hkw.run pos pins s σ H _ I h) fun ws s2 ⟨zs, H2, I2, rz, l2, q2⟩ => ⟨I2.kIn, ?_⟩
  rw [hks]
  exact run_fnN (us := []) F hr hb hx I2 .nil rz rfl l2 q2
def eFnK (i : Nat) (ps : List Str) (n : Nat) (ks : List Str) (r s : Ph → Ro → M (List D)) : Ev := fun Φ ρ => (r Φ ρ).bind fun us => (s Φ ρ).bind fun ws => Φ i (arr ps n ks us ws)
def kwB (L : Lx) (i n : Nat) (ks : List Str) : Bool := decide ((n, ks) ∈ L.I.kwOf i)
/-- f(e, .., k = v, ..) -/
def cFnK {r s : Ph → Ro → M (List D)} (i : Nat) (x : Str) (ps : List Str) (n : Nat) (ks : List Str) (a : CA r) (b : CK s) (ne : ∃ e es, a.py = e :: es) (pl : a.pl = true) (hn : a.py.length = n) (hks : b.ks = ks) (hl : ∀ (us ws : List V), us.length = n → ws.length = ks.length → (arr ps n ks us ws).length = ps.length) (p pos : Pos) : CE (eFnK i ps n ks r s) where
  py := .Call (.Name x p) a.py b.py pos
  chk := fun L => decide (L.I.fns[i]? = some (x, ps)) && (kwB L i n ks && (glB L.sc x && (nameOk x && (a.chk L && b.chk L))))
  pl := rfl
  ok := fun L Φ X g q => by
    obtain ⟨q1, qa⟩ := ba q
    obtain ⟨qk, qb⟩ := ba qa
    obtain ⟨q2, qc⟩ := ba qb
    obtain ⟨q3, qd⟩ := ba qc
    obtain ⟨q4, q5⟩ := ba qd
    obtain ⟨n1, _, _⟩ := nameOk_ok q3
    obtain ⟨e, es, he⟩ := ne
    have hp := a.plOk pl
    have ha := a.ok L Φ X g q4
    have hlen := a.len pl
    obtain ⟨k, hr, hf⟩ := g.fns
    obtain ⟨f, fd, m1, m2, _, mk, m4⟩ := (hf i x ps (of_decide_eq_true q1)).ex
    have hk := mk (n, ks) (of_decide_eq_true qk)
    subst hks
    obtain ⟨k1, k2, k3⟩ := b.hk pos X.env
    rw [he] at hp ha hn hlen ⊢
    have hst := starEach_pl (hp e (by simp)) es X.env
    have hpa := plain_any (fun z hz => hp z hz) pos X.env
    refine PE.weak (pe_callN m4 hr (g.gl q2) m1 m2 hk pass0 ha (b.ok L Φ X g q5) k1 k2 n1 hst (by rw [hpa, k3]; rfl)) fun σ H Q ⟨ρ, S, ι, w, en, f⟩ => ?_
    refine ⟨ρ, S, ι, w, en, Fin.bindE f fun ds S1 ι1 H1 vs e0 e1 w1 r1 f1 => ⟨ρ, S1, ι1, w1, en.mono e1, Fin.bindE f1 fun zs S2 ι2 H2 us e3 e2 w2 r2 f2 => ?_⟩⟩
    have l1 : vs.length = n := by rw [r1.length, hlen _ _ _ _ _ e0, hn]
    have l2 : us.length = b.ks.length := by rw [r2.length, b.len _ _ _ _ _ e3]
    exact ⟨l1, l2, hl vs us l1 l2, _, S2, ι2, w2, (r1.mono e2).arr r2 ps n b.ks, f2⟩
def cFnK0 {s : Ph → Ro → M (List D)} (i : Nat) (x : Str) (ps : List Str) (ks : List Str) (b : CK s) (hks : b.ks = ks) (hl : ∀ (us ws : List V), us.length = 0 → ws.length = ks.length → (arr ps 0 ks us ws).length = ps.length) (p pos : Pos) : CE (eFnK i ps 0 ks aNil s) where
  py := .Call (.Name x p) [] b.py pos
  chk := fun L => decide (L.I.fns[i]? = some (x, ps)) && (kwB L i 0 ks && (glB L.sc x && (nameOk x && b.chk L)))
  pl := rfl
  ok := fun L Φ X g q => by
    obtain ⟨q1, qa⟩ := ba q
    obtain ⟨qk, qb⟩ := ba qa
    obtain ⟨q2, qc⟩ := ba qb
    obtain ⟨q3, q5⟩ := ba qc
    obtain ⟨n1, _, _⟩ := nameOk_ok q3
    obtain ⟨k, hr, hf⟩ := g.fns
    obtain ⟨f, fd, m1, m2, _, mk, m4⟩ := (hf i x ps (of_decide_eq_true q1)).ex
    have hk := mk (0, ks) (of_decide_eq_true qk)
    subst hks
    obtain ⟨k1, k2, k3⟩ := b.hk pos X.env
    refine PE.weak (pe_callN0 m4 hr (g.gl q2) m1 m2 hk pass0 (b.ok L Φ X g q5) k1 k2 n1 (by rw [k3]; rfl)) fun σ H Q ⟨ρ, S, ι, w, en, f⟩ => ?_
    have f : Fin X.K (RelD X.K) ι H Q (((s Φ ρ).bind fun ws => Φ i (arr ps 0 b.ks [] ws)) S) := f
    refine ⟨ρ, S, ι, w, en, Fin.bindE f fun zs S2 ι2 H2 us e3 e2 w2 r2 f2 => ?_⟩
    have l2 : us.length = b.ks.length := by rw [r2.length, b.len _ _ _ _ _ e3]
    exact ⟨l2, hl [] us rfl l2, _, S2, ι2, w2, RelDs.nil.arr r2 ps 0 b.ks, f2⟩

/-! ### isinstance -/
def tyName (d : D) (S : Store) : Option String := match d with
  | .non => some "NoneType"
  | .bl _ => some "bool"
  | .int _ => some "int"
  | .str _ => some "str"
  | .tup _ => some "tuple"
  | .tpk _ => none
  | .lst _ => some "list"
  | .rol _ => some "list"
  | .dct _ _ => some "dict"
  | .ref n => match S[n]? with
    | some (.lst _) => some "list"
    | some (.dK _ _) => some "dict"
    | some (.dT _ _) => some "dict"
    | none => none
theorem tyName_ok {K : PySem.W.Frag} {ι : Ix} {H : Hp} {S : Store} (w : World K ι H S) {d : D} {v : V} {T : String} (r : RelD K ι H d v) (e : tyName d S = some T) : TyX K H v (.type T) := by
  cases d with
  | non => cases e; rw [relD_non.mp r]; exact .base .non
  | bl b => cases e; rw [relD_bl.mp r]; exact .base (.bl b)
  | int i => cases e; rw [relD_int.mp r]; exact .base (.int i)
  | str s => cases e; rw [relD_str.mp r]; exact .base (.str s)
  | tup xs =>
    cases e
    obtain ⟨a, vs, h1, h2, _⟩ := relD_tup.mp r
    rw [h1]
    rcases h2 with ⟨o, h, _⟩ | ⟨o, its, n, h, hc, _⟩
    · exact .fTuple h
    · exact .kTuple h hc
  | tpk xs => cases e
  | lst xs =>
    cases e
    obtain ⟨a, vs, h1, h2, _⟩ := relD_lst.mp r
    rw [h1]; exact .base (.lst h2)
  | rol xs =>
    cases e
    obtain ⟨a, vs, h1, h2, _⟩ := relD_rol.mp r
    rw [h1]
    rcases h2 with ⟨o, h⟩ | ⟨o, its, n, h, hc, _⟩
    · exact .base (.frz h)
    · exact .kList h hc
  | dct ks xs =>
    cases e
    obtain ⟨a, vs, h1, h2, _⟩ := relD_dct.mp r
    rw [h1]; exact .base (.dK h2)
  | ref n =>
    obtain ⟨a, h1, h2⟩ := relD_ref.mp r
    cases q : S[n]? with
    | none => simp only [tyName, q] at e; cases e
    | some c =>
      obtain ⟨b, h3, h4⟩ := w.cell n c q
      rw [h2] at h3; cases h3
      rw [h1]
      cases c with
      | lst xs =>
        simp only [tyName, q] at e; cases e
        obtain ⟨vs, z, _⟩ := h4
        exact .base (.lst z)
      | dK ks xs =>
        simp only [tyName, q] at e; cases e
        obtain ⟨vs, z, _⟩ := h4
        exact .base (.dK z)
      | dT ks xs =>
        simp only [tyName, q] at e; cases e
        obtain ⟨vs, z, _⟩ := h4
        exact .base (.dT z)
/-- of which of these classes a value of the type T is -/
def kitT (T C : String) : Bool := (T == C) || (T == "bool" && C == "int")
def kitOk (C : String) : Bool := ["NoneType", "bool", "int", "str", "tuple", "list", "dict"].all fun T => decide (kitB T C = some (kitT T C))
theorem tyName_mem {d : D} {S : Store} {T : String} (e : tyName d S = some T) : T ∈ ["NoneType", "bool", "int", "str", "tuple", "list", "dict"] := by
  cases d with
  | ref n =>
    unfold tyName at e
    have e : (match S[n]? with | some (.lst _) => some "list" | some (.dK _ _) => some "dict" | some (.dT _ _) => some "dict" | none => none) = some T := e
    split at e <;> cases e <;> simp
  | _ => cases e <;> simp
theorem kitOk_ok {K : PySem.W.Frag} {C : String} (h : kitOk C = true) {d : D} {S : Store} {T : String} (e : tyName d S = some T) : PySem.W.kitOne K (.type T) (.type C) = some (kitT T C) :=
  kit_ty (of_decide_eq_true (List.all_eq_true.mp h T (tyName_mem e)))
def vIsi (C : String) (x : Ev) : Ev := fun Φ ρ => (x Φ ρ).bind fun d S => match tyName d S with
  | some T => .ok (.bl (kitT T C)) S
  | none => .bad
theorem relV_ty {C : String} : RelV (.ty C) (.type C) := rfl
def cIsi {x : Ev} (C : String) (a : CE x) (cn : Str) (hv : bootBuiltins cn = some (.type C)) (p pc pos : Pos) : CE (vIsi C x) where
  py := .Call (.Name "isinstance" p) [a.py, .Name cn pc] [] pos
  chk := fun L => bltB L "isinstance" && (bltB L cn && (kitOk C && a.chk L))
  pl := rfl
  ok := fun L Φ X g q => by
    obtain ⟨q1, q2⟩ := ba q
    obtain ⟨q2, q3⟩ := ba q2
    obtain ⟨q3, q4⟩ := ba q3
    obtain ⟨g1, g2, g3, g4⟩ := bltB_ok g q1
    obtain ⟨k1, k2, k3, k4⟩ := bltB_ok g q2
    refine PE.weak (pe_callB call_isi g1 g2 (by decide +kernel) (pa_cons (a.ok L Φ X g q4) (pa_cons (pe_bltn (v := .ty C) k1 k2 hv rfl k3 k4) pa_nil (starEach_pl rfl _ _)) (starEach_pl a.pl _ _)) g3 g4 (starEach_pl a.pl _ _)) fun σ H Q ⟨ρ, S, ι, w, e, f⟩ => ?_
    refine ⟨ρ, S, ι, w, e, Fin.bind f fun d S1 ι1 H1 v e1 w1 r1 f1 => ?_⟩
    cases ht : tyName d S1 with
    | none => simp only [ht] at f1; exact f1.elim
    | some T =>
      simp only [ht] at f1
      exact ⟨v, .ty C, .type T, .type C, kitT T C, rfl, .ty C, tyName_ok w1 r1 ht, kitOk_ok q3 ht, f1.now w1 (relD_bl.mpr rfl)⟩
/-- isinstance(x, (A, B)) -/
def vIsi2 (C D' : String) (x : Ev) : Ev := fun Φ ρ => (x Φ ρ).bind fun d S => match tyName d S with
  | some T => .ok (.bl (kitT T C || kitT T D')) S
  | none => .bad
def cIsi2 {x : Ev} (C D' : String) (a : CE x) (cn dn : Str) (hv : bootBuiltins cn = some (.type C)) (hw : bootBuiltins dn = some (.type D')) (p pc pd pt pos : Pos) (kt : Nat) : CE (vIsi2 C D' x) where
  py := .Call (.Name "isinstance" p) [a.py, .Tuple [.Name cn pc, .Name dn pd] kt pt] [] pos
  chk := fun L => bltB L "isinstance" && (bltB L cn && (bltB L dn && (kitOk C && (kitOk D' && a.chk L))))
  pl := rfl
  ok := fun L Φ X g q => by
    obtain ⟨q1, q2⟩ := ba q
    obtain ⟨q2, qd⟩ := ba q2
    obtain ⟨qd, q3⟩ := ba qd
    obtain ⟨q3, q4⟩ := ba q3
    obtain ⟨q4, q5⟩ := ba q4
    obtain ⟨g1, g2, g3, g4⟩ := bltB_ok g q1
    obtain ⟨k1, k2, k3, k4⟩ := bltB_ok g q2
    obtain ⟨l1, l2, l3, l4⟩ := bltB_ok g qd
    refine PE.weak (pe_callB call_isiT g1 g2 (by decide +kernel) (pa_cons (a.ok L Φ X g q5) (pa_cons (pe_tup (pa_cons (pe_bltn (v := .ty C) k1 k2 hv rfl k3 k4) (pa_cons (pe_bltn (v := .ty D') l1 l2 hw rfl l3 l4) pa_nil (starEach_pl rfl _ _)) (starEach_pl rfl _ _))) pa_nil (starEach_pl rfl _ _)) (starEach_pl a.pl _ _)) g3 g4 (starEach_pl a.pl _ _)) fun σ H Q ⟨ρ, S, ι, w, e, f⟩ => ?_
    refine ⟨ρ, S, ι, w, e, Fin.bind f fun d S1 ι1 H1 v e1 w1 r1 f1 => ?_⟩
    cases ht : tyName d S1 with
    | none => simp only [ht] at f1; exact f1.elim
    | some T =>
      simp only [ht] at f1
      refine ⟨by simp only [List.length_cons, List.length_nil]; rw [sizeLine_eq]; decide, fun t ht' => ?_⟩
      refine ⟨v, t, [.ty C, .ty D'], .type T, [.type C, .type D'], kitT T C || kitT T D', rfl, upd_same, .cons (.ty C) (.cons (.ty D') .nil), tyName_ok (w1.fresh ht') (r1.mono (.fresh ht')) ht, ?_, ?_⟩
      · refine kitAny_cons (kitOk_ok q3 ht) (fun e => ?_) (fun e => by rw [e]; rfl)
        rw [e, Bool.false_or]
        refine kitAny_cons (kitOk_ok q4 ht) (fun e => by rw [e]; exact kitAny_nil) (fun e => e)
      · exact (f1.mono (.fresh ht')).now (w1.fresh ht') (relD_bl.mpr rfl)

/-! ### methods of lists and tuples -/
def isCall0 : Expr → Bool
  | .Call (.Name _ _) [] [] _ => true
  | _ => false
theorem attrBase_ok {o : Expr} (h : isCall0 o = false) (a : Str) (env : Env) (whole : Sem Value) : attributeBase o a env whole = whole := by
  unfold attributeBase
  split
  · cases h
  · rfl
def rMt (K : PySem.W.Frag) (op : D → List D → M D) : V → List V → Hp → VK → Prop := fun vx vs H Q => ∃ (x : D) (ds : List D) (S : Store) (ι : Ix), World K ι H S ∧ RelD K ι H x vx ∧ RelDs K ι H ds vs ∧ Fin K (RelD K) ι H Q (op x ds S)
structure CMt (id : String) (op : D → List D → M D) : Prop where
  ok : ∀ (X : Cx), X.calm = true → X.A.units + 100 < cLine → MtR X id (rMt X.K op)
theorem MtR.imp {X : Cx} {id : String} {r r' : V → List V → Hp → VK → Prop} (h : MtR X id r) (q : ∀ x xs H Q, r' x xs H Q → r x xs H Q) : MtR X id r' :=
  fun pins s σ H x xs v us Q I rx rxs z => h pins s σ H x xs v us Q I rx rxs (q _ _ _ _ z)
/-- o.m(e, ..): opL where o is a list, opT where it is a tuple -/
def eMt (opL opT : D → List D → M D) (o : Ev) (r : Ph → Ro → M (List D)) : Ev := fun Φ ρ => (o Φ ρ).bind fun x S => match x with
  | .tup xs => ((r Φ ρ).bind fun ds => opT (.tup xs) ds) S
  | x => match lstOf x S with
    | some _ => ((r Φ ρ).bind fun ds => opL x ds) S
    | none => .bad
def opNone : D → List D → M D := fun _ _ => M.bad
/-- lists alone -/
def cMtL {opL : D → List D → M D} {o : Ev} {r : Ph → Ro → M (List D)} (name : Str) (id : String) (slot : Slot "list" name id) (hty : typeOf (.builtin id) = pure (.type "method_descriptor")) (h : CMt id opL) (x : CE o) (a : CA r)
    (ne : ∃ e es, a.py = e :: es) (pl : a.pl = true) (hc : isCall0 x.py = false) (h30 : a.py.length < 30) (apos cpos : Pos) (hline : (apos.endLine == cpos.line) = true) : CE (eMt opL opNone o r) where
  py := .Call (.Attribute x.py name apos) a.py [] cpos
  chk := fun L => x.chk L && a.chk L
  pl := rfl
  ok := fun L Φ X g q => by
    obtain ⟨q1, q2⟩ := ba q
    obtain ⟨e, es, he⟩ := ne
    have hp := a.plOk pl
    have ha := a.ok L Φ X g q2
    rw [he] at hp ha h30 ⊢
    refine PE.weak (pe_bm PySem.F.plainAttrs_list slot hty (h.ok X g.calm g.hu) (x.ok L Φ X g q1) ha (attrBase_ok hc _ _ _) ?hf hline (starEach_pl (hp e (by simp)) _ _) (plain_any (fun z hz => hp z (by simp [hz])) _ _)) fun σ H Q ⟨ρ, S, ι, w, en, f⟩ => ?_
    case hf =>
      rw [plain_all (fun z hz => hp z hz)]
      simp only [List.length_cons, List.length_nil] at h30 ⊢
      simp [backToKw, keywordEach]
      exact h30
    refine ⟨ρ, S, ι, w, en, Fin.bind f fun d S1 ι1 H1 v e1 w1 r1 f1 => ?_⟩
    have go : (∃ xs, lstOf d S1 = some xs) ∧ Fin X.K (RelD X.K) ι1 H1 Q (((r Φ ρ).bind fun ds => opL d ds) S1) := by
      have z : ∀ y : D, d = y → (∃ xs, lstOf d S1 = some xs) ∧ Fin X.K (RelD X.K) ι1 H1 Q (((r Φ ρ).bind fun ds => opL d ds) S1) := by
        intro y ey
        cases hl : lstOf d S1 with
        | some xs =>
          cases d with
          | tup _ => cases hl
          | _ => simp only [hl] at f1; exact ⟨⟨xs, rfl⟩, f1⟩
        | none =>
          cases d with
          | tup ys =>
            have f2 : Fin X.K (RelD X.K) ι1 H1 Q (((r Φ ρ).bind fun ds => opNone (.tup ys) ds) S1) := f1
            unfold M.bind opNone M.bad at f2
            cases hr : r Φ ρ S1 <;> (rw [hr] at f2; exact f2.elim)
          | _ => simp only [hl] at f1; exact f1.elim
      exact z d rfl
    obtain ⟨⟨xs, hl⟩, f2⟩ := go
    obtain ⟨b, vs, h1, h2, _⟩ := lstOf_ok w1 r1 hl
    refine ⟨by rw [h1]; exact .inl ⟨rfl, _, h2⟩, ρ, S1, ι1, w1, en.mono e1, Fin.bind f2 fun ds S2 ι2 H2 us e2 w2 r2 f3 => ⟨d, ds, S2, ι2, w2, r1.mono e2, r2, f3⟩⟩
/-- lists and tuples -/
def cMtLT {opL opT : D → List D → M D} {o : Ev} {r : Ph → Ro → M (List D)} (name : Str) (id idT : String) (slot : Slot "list" name id) (hty : typeOf (.builtin id) = pure (.type "method_descriptor")) (slotT : Slot "tuple" name idT) (htyT : typeOf (.builtin idT) = pure (.type "method_descriptor"))
    (h : CMt id opL) (hT : CMt idT opT) (x : CE o) (a : CA r)
    (ne : ∃ e es, a.py = e :: es) (pl : a.pl = true) (hc : isCall0 x.py = false) (h30 : a.py.length < 30) (apos cpos : Pos) (hline : (apos.endLine == cpos.line) = true) : CE (eMt opL opT o r) where
  py := .Call (.Attribute x.py name apos) a.py [] cpos
  chk := fun L => x.chk L && a.chk L
  pl := rfl
  ok := fun L Φ X g q => by
    obtain ⟨q1, q2⟩ := ba q
    obtain ⟨e, es, he⟩ := ne
    have hp := a.plOk pl
    have ha := a.ok L Φ X g q2
    rw [he] at hp ha h30 ⊢
    have hf : ((backTo cpos (starEach (e :: es) X.env)).all (fun x => !x.1) && (backToKw cpos (keywordEach [] X.env)).all (fun x => x.1.isSome) && decide ((e :: es).length + ([] : List Keyword).length + (if ([] : List Keyword).isEmpty then 0 else 1) < 30)) = true := by
      rw [plain_all (fun z hz => hp z hz)]
      simp only [List.length_cons, List.length_nil] at h30 ⊢
      simp [backToKw, keywordEach]
      exact h30
    have hst := starEach_pl (hp e (by simp)) es X.env
    have hpa := plain_any (fun z hz => hp z (by simp [hz])) cpos X.env (es := es)
    have P1 := pe_bm (X := X) PySem.F.plainAttrs_list slot hty (h.ok X g.calm g.hu) (x.ok L Φ X g q1) ha (attrBase_ok hc _ _ _) hf hline hst hpa
    have P2 := pe_bmT (X := X) PySem.F.plainAttrs_tuple slotT htyT (hT.ok X g.calm g.hu) (x.ok L Φ X g q1) ha (attrBase_ok hc _ _ _) hf hline hst hpa
    have P : PE X (.Call (.Attribute x.py name apos) (e :: es) [] cpos) (fun σ H Q => tBM X.K "list" (rMt X.K opL) (tE X.K (o Φ)) (tA X.K (r Φ)) σ H Q ∨ tBMT X.K (rMt X.K opT) (tE X.K (o Φ)) (tA X.K (r Φ)) σ H Q) :=
      ⟨fun pins s σ H Q I hq => hq.elim (P1.run pins s σ H Q I) (P2.run pins s σ H Q I)⟩
    refine PE.weak P fun σ H Q ⟨ρ, S, ι, w, en, f⟩ => ?_
    cases ho : o Φ ρ S with
    | exc _ _ _ =>
      have f2 : Fin X.K (RelD X.K) ι H Q (M.bind (o Φ ρ) _ S) := f
      unfold M.bind at f2
      rw [ho] at f2
      exact f2.elim
    | bad =>
      have f2 : Fin X.K (RelD X.K) ι H Q (M.bind (o Φ ρ) _ S) := f
      unfold M.bind at f2
      rw [ho] at f2
      exact f2.elim
    | ok d0 S0 =>
      by_cases ht : ∃ ys, d0 = .tup ys
      · obtain ⟨ys, e0⟩ := ht
        refine .inr ⟨ρ, S, ι, w, en, Fin.bindE f fun d S1 ι1 H1 v ed e1 w1 r1 f1 => ?_⟩
        rw [ho] at ed
        cases ed
        subst e0
        obtain ⟨b, vs, h1, h2, _⟩ := relD_tup.mp r1
        exact ⟨⟨b, vs, h1, h2⟩, ρ, S0, ι1, w1, en.mono e1, Fin.bind f1 fun ds S2 ι2 H2 us e2 w2 r2 f3 => ⟨.tup ys, ds, S2, ι2, w2, r1.mono e2, r2, f3⟩⟩
      · refine .inl ⟨ρ, S, ι, w, en, Fin.bindE f fun d S1 ι1 H1 v ed e1 w1 r1 f1 => ?_⟩
        rw [ho] at ed
        cases ed
        have go : (∃ xs, lstOf d0 S0 = some xs) ∧ Fin X.K (RelD X.K) ι1 H1 Q (((r Φ ρ).bind fun ds => opL d0 ds) S0) := by
          cases hl : lstOf d0 S0 with
          | some xs =>
            cases d0 with
            | tup _ => cases hl
            | _ => simp only [hl] at f1; exact ⟨⟨xs, rfl⟩, f1⟩
          | none =>
            cases d0 with
            | tup ys => exact (ht ⟨ys, rfl⟩).elim
            | _ => simp only [hl] at f1; exact f1.elim
        obtain ⟨⟨xs, hl⟩, f2⟩ := go
        obtain ⟨b, vs, h1, h2, _⟩ := lstOf_ok w1 r1 hl
        refine ⟨by rw [h1]; exact .inl ⟨rfl, _, h2⟩, ρ, S0, ι1, w1, en.mono e1, Fin.bind f2 fun ds S2 ι2 H2 us e2 w2 r2 f3 => ⟨d0, ds, S2, ι2, w2, r1.mono e2, r2, f3⟩⟩
/-! x.index(y) -/
def idxD (y : D) : List D → Option Nat
  | [] => none
  | d :: r => if D.eqv d y then some 0 else (idxD y r).map (· + 1)
def mIndex (x : D) (ds : List D) : M D := fun S => match ds with
  | [y] => match D.its x S with
    | some xs => if D.shp 30 y && D.shps 30 xs then (match idxD y xs with | some j => .ok (.int (j : Nat)) S | none => .bad) else .bad
    | none => .bad
  | _ => .bad
theorem idxD_ok {y : D} : ∀ {xs : List D} {j : Nat}, idxD y xs = some j → ∃ z, xs[j]? = some z ∧ D.eqv z y = true ∧ ∀ (m : Nat) (z' : D), m < j → xs[m]? = some z' → D.eqv z' y = false
  | [], j, h => by cases h
  | d :: r, j, h => by
    unfold idxD at h
    by_cases e : D.eqv d y = true
    · rw [if_pos e] at h; cases h
      exact ⟨d, rfl, e, fun m z' hm => absurd hm (by omega)⟩
    · rw [if_neg e] at h
      cases q : idxD y r with
      | none => rw [q] at h; cases h
      | some i =>
        rw [q] at h; cases h
        obtain ⟨z, h1, h2, h3⟩ := idxD_ok q
        refine ⟨z, by simpa using h1, h2, fun m z' hm hz => ?_⟩
        cases m with
        | zero => simp at hz; subst hz; exact Bool.eq_false_iff.mpr e
        | succ m => exact h3 m z' (Nat.lt_of_succ_lt_succ hm) (by simpa using hz)
theorem toPs_get : ∀ (xs : List D) (m : Nat), (D.toPs xs)[m]? = (xs[m]?).map D.toP
  | [], m => by unfold D.toPs; simp
  | d :: r, 0 => by unfold D.toPs; simp
  | d :: r, m + 1 => by unfold D.toPs; simp [toPs_get r m]
theorem shps_get : ∀ {n : Nat} {xs : List D} {m : Nat} {d : D}, D.shps n xs = true → xs[m]? = some d → D.shp n d = true
  | n, [], m, d, _, e => by simp at e
  | n, x :: r, 0, d, h, e => by unfold D.shps at h; simp at e; subst e; exact (ba h).1
  | n, x :: r, m + 1, d, h, e => by unfold D.shps at h; exact shps_get (m := m) (ba h).2 (by simpa using e)
theorem mIndex_at {K : PySem.W.Frag} {ι : Ix} {H : Hp} {S : Store} {Q : VK} {x : D} {ds : List D} {vs : List V} (w : World K ι H S) (rs : RelDs K ι H ds vs) (f : Fin K (RelD K) ι H Q (mIndex x ds S)) :
    ∃ y xs j v, vs = [v] ∧ RelD K ι H y v ∧ D.its x S = some xs ∧ D.shp 30 y = true ∧ D.shps 30 xs = true ∧ idxD y xs = some j ∧ Q (.int (j : Nat)) H := by
  unfold mIndex at f
  split at f
  · rename_i y
    obtain ⟨v, e1, r1⟩ := relDs_one rs
    cases hi : D.its x S with
    | none => rw [hi] at f; exact f.elim
    | some xs =>
      rw [hi] at f
      by_cases hs : (D.shp 30 y && D.shps 30 xs) = true
      · have f : Fin K (RelD K) ι H Q (if D.shp 30 y && D.shps 30 xs then (match idxD y xs with | some j => .ok (.int (j : Nat)) S | none => .bad) else .bad) := f
        rw [if_pos hs] at f
        obtain ⟨s1, s2⟩ := ba hs
        cases hj : idxD y xs with
        | none => rw [hj] at f; exact f.elim
        | some j =>
          rw [hj] at f
          exact ⟨y, xs, j, v, e1, r1, rfl, s1, s2, hj, f.now w (relD_int.mpr rfl)⟩
      · have f : Fin K (RelD K) ι H Q (if D.shp 30 y && D.shps 30 xs then (match idxD y xs with | some j => .ok (.int (j : Nat)) S | none => .bad) else .bad) := f
        rw [if_neg hs] at f; exact f.elim
  · exact f.elim
theorem idx_facts {y : D} {xs : List D} {j : Nat} (s1 : D.shp 30 y = true) (s2 : D.shps 30 xs = true) (h : idxD y xs = some j) :
    ∃ z, (D.toPs xs)[j]? = some z ∧ PyData.eqv z y.toP = true ∧ ∀ (m : Nat) (z' : PyData), m < j → (D.toPs xs)[m]? = some z' → PyData.eqv z' y.toP = false := by
  obtain ⟨z, h1, h2, h3⟩ := idxD_ok h
  refine ⟨z.toP, by rw [toPs_get, h1]; rfl, ?_, fun m z' hm hz => ?_⟩
  · rw [D.eqv_toP 30 z y (shps_get s2 h1) s1]; exact h2
  · rw [toPs_get] at hz
    cases e : xs[m]? with
    | none => rw [e] at hz; cases hz
    | some d =>
      rw [e] at hz; cases hz
      rw [D.eqv_toP 30 d y (shps_get s2 e) s1]; exact h3 m d hm e
theorem its_dpL {K : PySem.W.Frag} {ι : Ix} {H : Hp} {S : Store} (w : World K ι H S) {d : D} {v : V} {xs : List D} (r : RelD K ι H d v) (e : D.its d S = some xs) (h : D.shps 30 xs = true) (nt : ∀ ys, d ≠ .tup ys) :
    Dp K H v (.list (D.toPs xs)) := by
  cases d with
  | tup ys => exact (nt ys rfl).elim
  | lst ys =>
    cases e
    obtain ⟨a, vs, h1, h2, _, _, h4⟩ := relD_lst.mp r
    rw [h1]
    exact .lst (.inl (.inl h2)) (D.dps 30 _ h h4)
  | ref n =>
    cases q : S[n]? with
    | none =>
      have z : D.now (.ref n) S = .ref n := by simp only [D.now, q]
      unfold D.its at e; rw [z] at e; cases e
    | some c =>
      cases c with
      | lst ys =>
        have z : D.now (.ref n) S = .lst ys := by simp only [D.now, q]
        unfold D.its at e; rw [z] at e; cases e
        obtain ⟨a, h1, h2⟩ := relD_ref.mp r
        obtain ⟨b, vs, h3, h4, _, h6⟩ := w.lstAt q
        rw [h2] at h3; cases h3
        rw [h1]
        exact .lst (.inl (.inl h4)) (D.dps 30 _ h h6)
      | dK _ _ =>
        have z : D.now (.ref n) S = .ref n := by simp only [D.now, q]
        unfold D.its at e; rw [z] at e; cases e
      | dT _ _ =>
        have z : D.now (.ref n) S = .ref n := by simp only [D.now, q]
        unfold D.its at e; rw [z] at e; cases e
  | _ => cases e
def D.isTup : D → Bool
  | .tup _ => true
  | _ => false
def mIndexL (x : D) (ds : List D) : M D := if x.isTup then M.bad else mIndex x ds
def mIndexT (x : D) (ds : List D) : M D := if x.isTup then mIndex x ds else M.bad
theorem cm_indexL : CMt "list.index" mIndexL := ⟨fun X hc hu => MtR.imp (mt_indexD (by omega)) fun vx vs H Q ⟨x, ds, S, ι, w, rx, rs, f⟩ => by
  unfold mIndexL at f
  by_cases ht : x.isTup = true
  · rw [if_pos ht] at f; exact f.elim
  · rw [if_neg ht] at f
    obtain ⟨y, xs, j, v, e1, r1, hi, s1, s2, hj, q⟩ := mIndex_at w rs f
    obtain ⟨z, k1, k2, k3⟩ := idx_facts s1 s2 hj
    have hd := its_dpL w rx hi s2 (fun ys e => ht (by rw [e]; rfl))
    have hx : ∃ a, vx = .ref a := by cases hd; exact ⟨_, rfl⟩
    obtain ⟨a, ea⟩ := hx
    subst ea
    exact ⟨a, v, y.toP, D.toPs xs, j, z, rfl, e1, hd, D.dp 30 y s1 r1, D.shps_shaped s2, D.shaped s1, k1, k2, k3, q⟩⟩
theorem cm_indexT : CMt "tuple.index" mIndexT := ⟨fun X hc hu => MtR.imp (mt_indexT (by omega)) fun vx vs H Q ⟨x, ds, S, ι, w, rx, rs, f⟩ => by
  unfold mIndexT at f
  by_cases ht : x.isTup = true
  · rw [if_pos ht] at f
    obtain ⟨y, xs, j, v, e1, r1, hi, s1, s2, hj, q⟩ := mIndex_at w rs f
    obtain ⟨z, k1, k2, k3⟩ := idx_facts s1 s2 hj
    cases x with
    | tup ys =>
      obtain ⟨a, us, h1, h2, _, h4⟩ := relD_tup.mp rx
      cases hi
      subst h1
      exact ⟨a, v, y.toP, D.toPs xs, j, z, rfl, e1, .tup h2.sq (D.dps 30 xs s2 h4), D.dp 30 y s1 r1, D.shps_shaped s2, D.shaped s1, k1, k2, k3, q⟩
    | _ => cases ht
  · rw [if_neg ht] at f; exact f.elim⟩
/-! xs.append(y), xs.pop(i), xs.pop() : cells -/
def mCount (x : D) (ds : List D) : M D := fun S => match lstOf x S, ds with
  | some xs, [y] => if D.shps 30 xs && D.shp 30 y then .ok (.int (xs.countP fun z => D.eqv z y : Nat)) S else .bad
  | _, _ => .bad
theorem cnt_toP {y : D} (hy : D.shp 30 y = true) : ∀ {xs : List D}, D.shps 30 xs = true → ((D.toPs xs).countP fun z => PyData.eqv z y.toP) = xs.countP fun z => D.eqv z y
  | [], _ => rfl
  | d :: r, h => by
    unfold D.shps at h
    obtain ⟨h1, h2⟩ := ba h
    unfold D.toPs
    rw [List.countP_cons, List.countP_cons, cnt_toP hy h2, D.eqv_toP 30 d y h1 hy]
theorem plainAll_of : ∀ {ps : List PyData}, PyData.canLayAll0 ps = true → PyData.plainAll ps = true
  | [], _ => rfl
  | p :: r, h => by
    unfold PyData.canLayAll0 at h
    obtain ⟨h1, h2⟩ := ba h
    unfold PyData.plainAll
    rw [PyData.plain_of_canLay0 p h1, plainAll_of h2]; rfl
theorem cm_count : CMt "list.count" mCount := ⟨fun X hc hu => MtR.imp (mt_cntD hu) fun vx vs H Q ⟨x, ds, S, ι, w, rx, rs, f⟩ => by
  unfold mCount at f
  cases e : lstOf x S with
  | none => rw [e] at f; exact f.elim
  | some xs =>
    rw [e] at f
    cases ds with
    | nil => exact f.elim
    | cons y r =>
      cases r with
      | cons _ _ => exact f.elim
      | nil =>
        have f : Fin X.K (RelD X.K) ι H Q (if D.shps 30 xs && D.shp 30 y then R.ok (D.int (xs.countP fun z => D.eqv z y : Nat)) S else R.bad) := f
        by_cases hb : (D.shps 30 xs && D.shp 30 y) = true
        · rw [if_pos hb] at f
          obtain ⟨b1, b2⟩ := ba hb
          obtain ⟨v, e1, r1⟩ := relDs_one rs
          obtain ⟨a, us, hv, hs, hz, hr⟩ := lstOf_ok w rx e
          obtain ⟨c1, c2⟩ := D.toPs_ok 30 xs b1
          obtain ⟨c3, c4⟩ := D.toP_ok 30 y b2
          refine ⟨a, v, us, y.toP, D.toPs xs, hv, e1, hs, D.dps 30 _ b1 hr, D.dp 30 _ b2 r1, plainAll_of c1, PyData.plain_of_canLay0 _ c3, by omega, ?_⟩
          rw [cnt_toP b2 b1]
          exact f.now w (relD_int.mpr rfl)
        · rw [if_neg hb] at f; exact f.elim⟩
def mAppend (x : D) (ds : List D) : M D := fun S => match x, ds with
  | .ref n, [y] => match S[n]? with
    | some (.lst xs) => if D.bel n y && decide (xs.length < 16777216) then .ok .non (S.set n (.lst (xs ++ [y]))) else .bad
    | _ => .bad
  | _, _ => .bad
theorem D.bels_append {n : Nat} : ∀ (xs ys : List D), D.bels n (xs ++ ys) = (D.bels n xs && D.bels n ys)
  | [], ys => by unfold D.bels; rfl
  | d :: r, ys => by
    show (D.bel n d && D.bels n (r ++ ys)) = ((D.bel n d && D.bels n r) && D.bels n ys)
    rw [D.bels_append r ys, Bool.and_assoc]
theorem cm_append : CMt "list.append" mAppend := ⟨fun X hc hu => MtR.imp (show MtR X "list.append" rAppend from mt_append) fun vx vs H Q ⟨x, ds, S, ι, w, rx, rs, f⟩ => by
  unfold mAppend at f
  split at f
  · rename_i n y
    obtain ⟨v, e1, r1⟩ := relDs_one rs
    cases hs : S[n]? with
    | none => rw [hs] at f; exact f.elim
    | some c =>
      cases c with
      | lst xs =>
        rw [hs] at f
        by_cases hb : (D.bel n y && decide (xs.length < 16777216)) = true
        · have f : Fin X.K (RelD X.K) ι H Q (if D.bel n y && decide (xs.length < 16777216) then .ok .non (S.set n (.lst (xs ++ [y]))) else .bad) := f
          rw [if_pos hb] at f
          obtain ⟨b1, b2⟩ := ba hb
          obtain ⟨a, h1, h2⟩ := relD_ref.mp rx
          obtain ⟨b, us, h3, h4, h5, h6⟩ := w.lstAt hs
          rw [h2] at h3; cases h3
          have hl : us.length < sizeLine := by rw [h6.length, sizeLine_eq]; exact of_decide_eq_true b2
          have E : Ext ι H ι (upd H a (.lst (us ++ [v]))) := .write w h2
          refine ⟨a, us, v, h1, e1, h4, hl, f ι _ _ E (w.write h2 ?_ ⟨us ++ [v], upd_same, by rw [List.length_append]; exact hl, (h6.append (.cons r1 .nil)).mono E⟩) (relD_non.mpr rfl)⟩
          show D.bels n (xs ++ [y]) = true
          rw [D.bels_append, show D.bels n xs = true from w.bel n _ hs]
          show (true && (D.bel n y && true)) = true
          rw [b1]; rfl
        · have f : Fin X.K (RelD X.K) ι H Q (if D.bel n y && decide (xs.length < 16777216) then .ok .non (S.set n (.lst (xs ++ [y]))) else .bad) := f
          rw [if_neg hb] at f; exact f.elim
      | _ => rw [hs] at f; exact f.elim
  · exact f.elim⟩
def mPop (x : D) (ds : List D) : M D := fun S => match x, ds with
  | .ref n, [.int i] => match S[n]? with
    | some (.lst xs) => match ixN xs.length i with
      | some k => match xs[k]? with
        | some y => if -(2 ^ 63) ≤ i ∧ i < 2 ^ 63 then .ok y (S.set n (.lst (xs.eraseIdx k))) else .bad
        | none => .bad
      | none => .bad
    | _ => .bad
  | _, _ => .bad
theorem D.bels_mem {n : Nat} {xs : List D} : D.bels n xs = true ↔ ∀ d ∈ xs, D.bel n d = true := by
  induction xs with
  | nil => simp [D.bels]
  | cons d r ih =>
    unfold D.bels
    rw [Bool.and_eq_true, ih]
    simp
theorem cm_pop : CMt "list.pop" mPop := ⟨fun X hc hu => MtR.imp (show MtR X "list.pop" rPopAt from mt_popAt) fun vx vs H Q ⟨x, ds, S, ι, w, rx, rs, f⟩ => by
  unfold mPop at f
  split at f
  · rename_i n i
    obtain ⟨v, e1, r1⟩ := relDs_one rs
    cases hs : S[n]? with
    | none => simp only [hs] at f; exact f.elim
    | some c =>
      cases c with
      | lst xs =>
        simp only [hs] at f
        cases hk : ixN xs.length i with
        | none => simp only [hk] at f; exact f.elim
        | some k =>
          simp only [hk] at f
          cases hy : xs[k]? with
          | none => simp only [hy] at f; exact f.elim
          | some y =>
            simp only [hy] at f
            by_cases hi : -(2 ^ 63) ≤ i ∧ i < 2 ^ 63
            · rw [if_pos hi] at f
              obtain ⟨a, h1, h2⟩ := relD_ref.mp rx
              obtain ⟨b, us, h3, h4, h5, h6⟩ := w.lstAt hs
              rw [h2] at h3; cases h3
              obtain ⟨u, hu1, ru⟩ := h6.get hy
              have E : Ext ι H ι (upd H a (.lst (us.eraseIdx k))) := .write w h2
              refine ⟨a, us, i, k, u, h1, by rw [e1, relD_int.mp r1], h4, hi.1, hi.2, ?_, hu1, f ι _ _ E (w.write h2 ?_ ⟨us.eraseIdx k, upd_same, Nat.le_trans (len_erase us k) h5, (h6.eraseIdx k).mono E⟩) (ru.mono E)⟩
              · rw [h6.length]; exact (ixN_seq hk).1
              · show D.bels n (xs.eraseIdx k) = true
                have z := D.bels_mem.mp (w.bel n _ hs)
                exact D.bels_mem.mpr fun d hd => z d (List.mem_of_mem_eraseIdx hd)
            · rw [if_neg hi] at f; exact f.elim
      | _ => simp only [hs] at f; exact f.elim
  · exact f.elim⟩

/-! ### x[a:b:c] -/
def oSt (m : Bool) (x : D) (lo hi : Option Int) (st : Int) : M D := fun S => if st = 0 ∨ st = 1 then .bad else match x with
  | .tup xs => if (pickL (tupIx lo hi st xs.length) xs).length ≤ 16777216 then .ok (.tup (pickL (tupIx lo hi st xs.length) xs)) S else .bad
  | x => match lstOf x S with
    | some xs => if (pickL (listIx lo hi st xs.length) xs).length ≤ 16777216 then mkLst m (pickL (listIx lo hi st xs.length) xs) S else .bad
    | none => .bad
def eSt (m : Bool) (x : Ev) (lo hi : Ov) (st : Ov) : Ev := fun Φ ρ => (x Φ ρ).bind fun d => (lo Φ ρ).bind fun l => (hi Φ ρ).bind fun h => (st Φ ρ).bind fun o => match o with
  | some s => oSt m d l h s
  | none => M.bad
theorem RelDs.pick {K : PySem.W.Frag} {ι : Ix} {H : Hp} {ds : List D} {vs : List V} (h : RelDs K ι H ds vs) : ∀ ix : List Nat, RelDs K ι H (pickL ix ds) (pickL ix vs)
  | [] => .nil
  | i :: ix => by
    unfold pickL
    rw [List.filterMap_cons, List.filterMap_cons]
    cases e : ds[i]? with
    | none =>
      have e2 : vs[i]? = none := by
        rw [List.getElem?_eq_none_iff] at e ⊢
        rw [h.length]; exact e
      rw [e2]
      exact RelDs.pick h ix
    | some d =>
      obtain ⟨v, e2, r⟩ := h.get e
      rw [e2]
      exact .cons r (RelDs.pick h ix)
def cSt (m : Bool) {x : Ev} {lo hi : Ov} {st : Ov} (a : CE x) (l : CO lo) (h : CO hi) (t : CO st) (hs : t.py.isSome = true) (p2 p : Pos) : CE (eSt m x lo hi st) where
  py := .Subscript a.py (.Slice l.py h.py t.py p2) p
  chk := fun L => a.chk L && (l.chk L && (h.chk L && t.chk L))
  pl := rfl
  ok := fun L Φ X g q => by
    obtain ⟨q1, qa⟩ := ba q
    obtain ⟨q2, qb⟩ := ba qa
    obtain ⟨q3, q4⟩ := ba qb
    refine PE.weak (pe_slSt (a.ok L Φ X g q1) (l.ok L Φ X g q2) (h.ok L Φ X g q3) (t.ok L Φ X g q4) (fun b o i hb => ?_) hs) fun σ H Q ⟨ρ, S, ι, w, e, f⟩ => ?_
    · cases ht : t.py with
      | none => rw [ht] at hb; cases hb
      | some z => cases b <;> rfl
    refine ⟨ρ, S, ι, w, e, Fin.bind f fun x S1 ι1 H1 v e1 w1 r1 f1 => ⟨ρ, S1, ι1, w1, e.mono e1, Fin.bind f1 fun y S2 ι2 H2 u e2 w2 r2 f2 => ⟨ρ, S2, ι2, w2, e.mono (e1.trans e2), Fin.bind f2 fun z S3 ι3 H3 t3 e3 w3 r3 f3 => ⟨ρ, S3, ι3, w3, e.mono (e1.trans (e2.trans e3)), Fin.bind f3 fun o S4 ι4 H4 t4 e4 w4 r4 f4 => ?_⟩⟩⟩⟩
    cases (show y = u from r2)
    cases (show z = t3 from r3)
    cases (show o = t4 from r4)
    cases o with
    | none => exact f4.elim
    | some s =>
      replace f4 : Fin X.K (RelD X.K) ι4 H4 Q (oSt m x y z s S4) := f4
      have rx := r1.mono (e2.trans (e3.trans e4))
      refine ⟨s, rfl, ?_⟩
      unfold oSt at f4
      by_cases h01 : s = 0 ∨ s = 1
      · rw [if_pos h01] at f4; exact f4.elim
      · rw [if_neg h01] at f4
        have n0 : s ≠ 0 := fun e => h01 (.inl e)
        have n1 : s ≠ 1 := fun e => h01 (.inr e)
        split at f4
        · rename_i xs
          by_cases hz : (pickL (tupIx y z s xs.length) xs).length ≤ 16777216
          · rw [if_pos hz] at f4
            obtain ⟨a, vs, h1, h2, h3, h4⟩ := relD_tup.mp rx
            have rp := h4.pick (tupIx y z s xs.length)
            have hz' : (pickL (tupIx y z s xs.length) vs).length ≤ sizeLine := by rw [rp.length, sizeLine_eq]; exact hz
            refine .inr ⟨a, vs, h1, h2.sq, n0, n1, ?_, ?_⟩
            · rw [h4.length]; exact hz'
            · rw [h4.length]; exact f4.tupNew w4 rp hz'
          · rw [if_neg hz] at f4; exact f4.elim
        · cases hl : lstOf x S4 with
          | none => simp only [hl] at f4; exact f4.elim
          | some xs =>
            simp only [hl] at f4
            by_cases hz : (pickL (listIx y z s xs.length) xs).length ≤ 16777216
            · rw [if_pos hz] at f4
              obtain ⟨a, vs, h1, h2, h3, h4⟩ := lstOf_ok w4 rx hl
              have rp := h4.pick (listIx y z s xs.length)
              refine .inl ⟨a, vs, h1, h2, n0, fun p hp => ?_⟩
              rw [h4.length]
              exact Fin.mkNew f4 w4 rp (by rw [rp.length, sizeLine_eq]; exact hz) p hp
            · rw [if_neg hz] at f4; exact f4.elim
end G
end

section
set_option Elab.async false
set_option linter.all false
set_option maxRecDepth 100000

namespace PySem
open Sem (wp)
set_option maxHeartbeats 1000000 in
theorem meets_enumerate_newB1 {v : Value} {o : Obj} {H : Heap → Prop} (B : Begins v o H) :
    Meets (Builtin.«enumerate.__new__» ⟨[.type "enumerate", v], []⟩) (fun _ R s => H s.heap ∧
      R (.ok (.ret (.ref (s.heap.push o).objs.size))) { s with heap := (s.heap.push o).push { cls := .type "enumerate", data := .fields #[.none, .bool false, .ref s.heap.objs.size, rawInt 0, .none, .none] } }) :=
  .of_wp fun prog w A R s h => by
    obtain ⟨hp, g, d, tk, os⟩ := s; obtain ⟨h1, h⟩ := h
    have hsub := sub_enumerate
    have q1 : ∀ {A' : Around} {E : Value → Shared → Prop} {Q : Value → Shared → Prop}, Q (.ref hp.objs.size) ⟨hp.push o, g, d, tk, os⟩ → wpAny (model prog w) A' (pyIter v) Q E ⟨hp, g, d, tk, os⟩ :=
      fun q => B.iter prog w _ _ ⟨hp, g, d, tk, os⟩ _ h1 q
    wp_walk using q1
    refine wpAny_stack_any fun st => wpAny_pure ?_
    split
    · rename_i c _ _ _ _ _
      cases (c == Value.type "enumerate")
      · wp_walk using q1
        exact ⟨_, rfl, h⟩
      · wp_walk using q1
        exact ⟨_, rfl, h⟩
    · wp_walk using q1
      exact ⟨_, rfl, h⟩
section
variable {prog : Program} {w : World} {A : Around} {E : Value → Shared → Prop} {s : Shared}
/-- enumerate(v): its two new cells -/
theorem enum_begins1 {v : Value} {o : Obj} {H : Heap → Prop} {Q : Value → Shared → Prop} (B : Begins v o H) (h1 : H s.heap)
    (h : ∀ h', IsEnum h' (s.heap.objs.size + 1) s.heap.objs.size 0 .none → h'.get? s.heap.objs.size = some o → h'.objs.size = s.heap.objs.size + 2 →
      (∀ b o, s.heap.get? b = some o → h'.get? b = some o) → Q (.ref (s.heap.objs.size + 1)) { s with heap := h' }) :
    wpAny (model prog w) A (call (.type "enumerate") [v]) Q E s := by
  refine callType_new F.called_enumerate (by decide) (F.typeCall_enumerate_1 _) (F.newCall_enumerate_1 _) (fun obj => F.args_object_init_2 obj _) F.entry_enumerate_new
    (meets_enumerate_newB1 B) ⟨h1, ?_⟩
  have hz : (s.heap.push o).objs.size = s.heap.objs.size + 1 := Heap.size_push ..
  show _ ∧ _
  rw [hz]
  have he : IsEnum ((s.heap.push o).push { cls := .type "enumerate", data := .fields #[.none, .bool false, .ref s.heap.objs.size, rawInt 0, .none, .none] }) (s.heap.objs.size + 1) s.heap.objs.size 0 .none := by
    have := Heap.get?_push_size (s.heap.push o) (o := { cls := .type "enumerate", data := .fields #[.none, .bool false, .ref s.heap.objs.size, rawInt 0, .none, .none] }) rfl
    rw [hz] at this; exact this
  refine ⟨⟨_, he, rfl⟩, h _ he (Heap.get?_push_of_some _ (Heap.get?_push_size _ B.free)) (by rw [Heap.size_push, hz]) fun b o x => Heap.get?_push_of_some _ (Heap.get?_push_of_some _ x)⟩
end
end PySem

namespace G
open PySem PySem.Spec PyProof.Rows L2
/-! ### enumerate(tuple) -/
def IteT (K : PySem.W.Frag) (a : Addr) : It :=
  ⟨fun i H => ∃ (xs : List V) (x : V), SqT K H a xs ∧ xs[i]? = some x, fun i H v H' => ∃ T x, v = .ref T ∧ H T = none ∧ H' = upd H T (.tup [.int (i : Nat), x]) ∧ ∀ xs, SqT K H a xs → xs[i]? = some x, fun i H => ∃ xs : List V, SqT K H a xs ∧ xs.length ≤ i⟩
theorem turn_enumT {P : Program} {w : PySem.World} {K : PySem.W.Frag} {elts : List Expr} {kk : Nat} {tpos : Pos} (a e it : Addr) :
    Turn P w K (.Tuple elts kk tpos) (IteT K a) [e, it] e (fun i h => (∃ old, IsEnum h e it ((i : Nat) : Int) old) ∧ h.IsTupleIter it a i ∧ e ≠ it ∧ a ≠ it ∧ a ≠ e) where
  mem := by simp
  obj := fun i h st b hb => by
    obtain ⟨⟨old, he⟩, ⟨o, ho, hc, hd⟩, _⟩ := st
    have e' : b = e ∨ b = it := by simpa using hb
    rcases e' with z | z
    · rw [z]; exact ⟨_, he, fun v q => nomatch q⟩
    · rw [z]; exact ⟨o, ho, fun v q => by rw [hd] at q; cases q⟩
  keep := fun i h h' st k => let ⟨⟨old, he⟩, hi, hne⟩ := st; ⟨⟨old, k e (by simp) _ he⟩, hi.at fun o q => k it (by simp) o q, hne⟩
  item := by
    intro X hP hw hK hc i pins s σ H E I hf st hg
    subst hP hw hK
    obtain ⟨⟨old, he⟩, hit, hne, hai, hae⟩ := st
    obtain ⟨xs, x, hq, hx⟩ := hg
    obtain ⟨its, rv, p, hz⟩ := I.tuple hq
    obtain ⟨u, hu, ru⟩ := rv.get hx
    have hel : e < s.heap.objs.size := Heap.lt_size he
    have hil : it < s.heap.objs.size := by obtain ⟨_, q, _⟩ := hit; exact Heap.lt_size q
    have hil' : i < its.length := by
      have := (List.getElem?_eq_some_iff.mp hu).1
      exact this
    refine wpAny_pyNext_enum_itemD (P := fun i v => its.toArray[i]? = some v) (Draws.tuple (A := X.A.in1) (by show X.A.handled = none; exact I.ok.hd hc) it a hai its.toArray) he ⟨hit, show s.heap.IsTuple a its.toArray from p⟩ (by simpa using hil') hne (by simp [hne, Ne.symm hae]) fun y h' tk hP ho hs' hT hsz hk => ?_
    have ey : y = u := by
      have z : its[i]? = some y := by simpa using hP
      rw [hu] at z; exact (Option.some.inj z).symm
    subst ey
    refine ⟨_, rfl, wpAny_letOwnedTupleGo_enum (s := { s with heap := h', toks := tk + 1 }) ho fun h'' he' sb => ?_⟩
    have hT2 : h''.get? s.heap.objs.size = some { cls := .type "tuple", data := .seq #[.int i tk, y] } := (sb.2 _ (Nat.ne_of_gt hel)).trans hT
    have new : ObjOk X.prog X.w (upd H s.heap.objs.size (.tup [.int (i : Nat), x])) h'' s.heap.objs.size (.tup [.int (i : Nat), x]) :=
      ⟨by show 2 ≤ sizeLine; decide, [.int i tk, y], .cons ⟨_, rfl⟩ (.cons ru .nil), ⟨_, hT2, rfl, _, rfl⟩⟩
    have I1 : Inv X pins σ (upd H s.heap.objs.size (.tup [.int (i : Nat), x])) { s with heap := h'', toks := tk + 1 } :=
      I.turnedNew (ch := [e, it]) (fun b ob hb q => (sb.2 b (fun z => hb (by simp [z]))).trans (hk b ob (fun z => hb (by simp [z])) (fun z => hb (by simp [z])) q)) hf (Nat.le_refl _) new
    refine ⟨.ref s.heap.objs.size, _, I1, rfl, ⟨_, x, rfl, I.hok.fresh (Nat.le_refl _), rfl, fun ys hy => by rw [I.tuple_inj hy hq]; exact hx⟩, ⟨⟨y, ?_⟩, hs'.1.at fun o q => (sb.2 it (Ne.symm hne)).trans q, hne, hai, hae⟩, fun b hb => ?_⟩
    · have e1 : ((i + 1 : Nat) : Int) = (i : Int) + 1 := by omega
      rw [e1]; exact he'
    · have hb' : b < s.heap.objs.size := by
        have e' : b = e ∨ b = it := by simpa using hb
        rcases e' with z | z
        · rw [z]; exact hel
        · rw [z]; exact hil
      rw [upd_ne (Nat.ne_of_lt hb')]
      exact (hf b hb).1
  done := by
    intro X hP hw hK hc i pins s σ H E I hf st hg
    subst hP hw hK
    obtain ⟨⟨old, he⟩, hit, hne, hai, hae⟩ := st
    obtain ⟨xs, hq, hx⟩ := hg
    obtain ⟨its, rv, p, hz⟩ := I.tuple hq
    obtain ⟨f0, f1, f2, f3, f4, f5⟩ := hf it (by simp)
    have hl := rv.length
    have p : s.heap.IsTuple a its.toArray := p
    unfold pyNext
    have hT : s.TypeIs (.ref e) "enumerate" := ⟨_, he, rfl⟩
    refine wpAny_bind (wpAny_attempt (wpAny_callSpecial?_slot (name := Str.ofString "__next__") hT F.slot_enumerate_next
      (wpAny_call_entry F.slot_enumerate_next hT F.entry_enumerate_next ?_ (F.args_enumerate_next_1 _))))
    show wpAny _ _ (field (.ref e) 2 >>= _) _ _ _
    refine wpAny_bind (wpAny_field he rfl (x := .ref it) rfl ?_)
    refine wpAny_bind (wpAny_nextOf_tuple_end (A := X.A.in1) (show X.A.handled = none from I.ok.hd hc) hit p (by simp; omega) fun h' x he' hx' => ?_)
    obtain ⟨o, ho, hcl⟩ := hx'
    refine wpAny_bind (wpAny_isInstance (T := "StopIteration") (b := true) ⟨o, ho, hcl⟩ isSubtype_stop ?_)
    exact wpAny_pure ⟨rfl, I.turned (t' := s.toks) (fun b o hb q => he' b o hb q) f0 f1 f3 f4 f5⟩
  self := fun A i s Q E st h => let ⟨⟨_, he⟩, _⟩ := st; wpAny_pyIter_enum he h
def iEnumA (K : PySem.W.Frag) (ta : TA) : TI := fun σ H R => ta σ H fun vs H1 => ∃ a xs, vs = [.ref a] ∧ ((SqL K H1 a xs ∧ R (Ite K a) H1) ∨ (SqT K H1 a xs ∧ R (IteT K a) H1))
theorem pi_enumA {X : Cx} {e : Expr} {ta : TA} {p pos tpos : Pos} {elts : List Expr} {kk : Nat} (hg : Gl X "enumerate") (hm : X.mg "enumerate" = none) (ha : PA X [e] ta) (hs : starEach [e] X.env = [(false, eval e X.env)]) :
    PI X (.Tuple elts kk tpos) (.Call (.Name "enumerate" p) [e] [] pos) (iEnumA X.K ta) := by
  refine ⟨fun pins s σ H R I h => ?_⟩
  refine Call_ (ld_blt I hg hm boot_enumerate (PyProof.Rows.callWith_type1 (thn (ha.run pos pins s σ H _ I h) fun us s1 ⟨vs, H1, I1, r1, q1⟩ => ?_) hs rfl))
  obtain ⟨a, xs, ex, q1⟩ := q1
  subst ex
  cases r1 with
  | cons r rr =>
    cases rr
    cases r
    have fr : ∀ b ∈ [s1.heap.objs.size + 1, s1.heap.objs.size], FpOk X pins H1 b := fun b hb => by
      have e' : b = s1.heap.objs.size + 1 ∨ b = s1.heap.objs.size := by simpa using hb
      have hle : s1.heap.objs.size ≤ b := by
        rcases e' with z | z
        · rw [z]; exact Nat.le_add_right _ _
        · rw [z]; exact Nat.le_refl _
      exact I1.fpOk hle (I1.hok.fresh hle)
    rcases q1 with ⟨hq, q⟩ | ⟨hq, q⟩
    · obtain ⟨its, rv, p', hz⟩ := I1.list hq
      refine call_enumerate_list p'.isList fun h' he hit hsz hk => wpAny_pyIter_enum he ?_
      have I2 : Inv X pins σ H1 { s1 with heap := h' } := I1.kept (t' := s1.toks) hk
      exact ⟨s1.heap.objs.size + 1, [s1.heap.objs.size + 1, s1.heap.objs.size], _, _, H1, rfl, I2, turn_enum a (s1.heap.objs.size + 1) s1.heap.objs.size, ⟨⟨.none, he⟩, hit, Nat.succ_ne_self _⟩, fr, q⟩
    · obtain ⟨its, rv, p', hz⟩ := I1.tuple hq
      have p2 : s1.heap.IsTuple a its.toArray := p'
      have hal : a < s1.heap.objs.size := by obtain ⟨o, e, _⟩ := id p2; exact Heap.lt_size e
      refine enum_begins1 (begins_tuple a its.toArray) p2 fun h' he hit hsz hk => wpAny_pyIter_enum he ?_
      have I2 : Inv X pins σ H1 { s1 with heap := h' } := I1.kept (t' := s1.toks) hk
      exact ⟨s1.heap.objs.size + 1, [s1.heap.objs.size + 1, s1.heap.objs.size], _, _, H1, rfl, I2, turn_enumT a (s1.heap.objs.size + 1) s1.heap.objs.size, ⟨⟨.none, he⟩, ⟨_, hit, rfl, rfl⟩, Nat.succ_ne_self _, Nat.ne_of_lt hal, Nat.ne_of_lt (Nat.lt_succ_of_lt hal)⟩, fr, q⟩
end G
end

section
set_option Elab.async false
set_option linter.all false
set_option maxRecDepth 100000
namespace G
open PySem PySem.Spec PyProof.Rows L2

/-! ### what a loop walks -/
structure Src where
  rd : List (M D)
  fin : M Unit
structure SrcOk (K : PySem.W.Frag) (ι : Ix) (H : Hp) (J : It) (s : Src) : Prop where
  go : ∀ (i : Nat) (rd : M D), s.rd[i]? = some rd → ∀ (ι' : Ix) (H' : Hp) (S S' : Store) (d : D), Grow ι H ι' H' → World K ι' H' S → rd S = .ok d S' →
    S' = S ∧ J.go i H' ∧ ∀ v H'', J.yld i H' v H'' → Ext ι' H' ι' H'' ∧ World K ι' H'' S ∧ RelD K ι' H'' d v
  stop : ∀ (ι' : Ix) (H' : Hp) (S S' : Store), Grow ι H ι' H' → World K ι' H' S → s.fin S = .ok () S' → S' = S ∧ J.stop s.rd.length H'
abbrev Sv := Ph → Ro → M Src
def SrcR (K : PySem.W.Frag) (ι : Ix) (H : Hp) (s : Src) (J : It) : Prop := SrcOk K ι H J s
def tI (K : PySem.W.Frag) (f : Ro → M Src) : TI := fun σ H R => At K σ H fun ρ S ι => Fin K (SrcR K) ι H R (f ρ S)
structure CI (sv : Sv) where
  py : Expr
  chk : Lx → Bool
  /-- to be taken apart -/
  pr : Bool
  pl : plainE py = true
  ok : ∀ (L : Lx) (Φ : Ph) (X : Cx), Gd L Φ X → chk L = true → ∀ tg, (pr = true → isTup tg = true) → PI X tg py (tI X.K (sv Φ))
theorem PI.weak {X : Cx} {tg e : Expr} {t t' : TI} (h : PI X tg e t) (w : ∀ σ H Q, t' σ H Q → t σ H Q) : PI X tg e t' := ⟨fun pins s σ H Q I q => h.run pins s σ H Q I (w _ _ _ q)⟩
def fixS (xs : List D) : Src := ⟨xs.map M.ok, M.ok ()⟩
def rdC (n L i : Nat) : M D := fun S => match S[n]? with
  | some (.lst ys) => if ys.length = L then (match ys[i]? with | some y => .ok y S | none => .bad) else .bad
  | _ => .bad
def finC (n L : Nat) : M Unit := fun S => match S[n]? with
  | some (.lst ys) => if ys.length = L then .ok () S else .bad
  | _ => .bad
/-- the list in a cell, which keeps its length -/
def cellS (n L : Nat) : Src := ⟨(List.range L).map (rdC n L), finC n L⟩
theorem fix_get {xs : List D} {i : Nat} {rd : M D} (e : (fixS xs).rd[i]? = some rd) : ∃ d, xs[i]? = some d ∧ rd = M.ok d := by
  unfold fixS at e
  rw [List.getElem?_map] at e
  cases h : xs[i]? with
  | none => rw [h] at e; cases e
  | some d => rw [h] at e; cases e; exact ⟨d, rfl, rfl⟩
theorem fix_len {xs : List D} : (fixS xs).rd.length = xs.length := by unfold fixS; simp
section
variable {K : PySem.W.Frag} {ι : Ix} {H : Hp} {xs : List D} {vs : List V} {a : Addr}
theorem SrcOk.list (hq : ∀ ι' H', Grow ι H ι' H' → SqL K H' a vs) (r : RelDs K ι H xs vs) : SrcOk K ι H (Itl K a) (fixS xs) where
  go := fun i rd e ι' H' S S' d g w h => by
    obtain ⟨d', e1, rfl⟩ := fix_get e
    cases h
    obtain ⟨v, e2, rv⟩ := r.get e1
    refine ⟨rfl, ⟨vs, v, hq _ _ g, e2⟩, fun u H'' y => ?_⟩
    obtain ⟨rfl, y⟩ := y
    have z := y vs (hq _ _ g)
    rw [e2] at z; cases z
    exact ⟨.refl _ _, w, rv.monoG g⟩
  stop := fun ι' H' S S' g w h => by
    cases h
    exact ⟨rfl, vs, hq _ _ g, by rw [fix_len, r.length]; exact Nat.le_refl _⟩
theorem SrcOk.tup (hq : ∀ ι' H', Grow ι H ι' H' → SqT K H' a vs) (r : RelDs K ι H xs vs) : SrcOk K ι H (Itt K a) (fixS xs) where
  go := fun i rd e ι' H' S S' d g w h => by
    obtain ⟨d', e1, rfl⟩ := fix_get e
    cases h
    obtain ⟨v, e2, rv⟩ := r.get e1
    refine ⟨rfl, ⟨vs, v, hq _ _ g, e2⟩, fun u H'' y => ?_⟩
    obtain ⟨rfl, y⟩ := y
    have z := y vs (hq _ _ g)
    rw [e2] at z; cases z
    exact ⟨.refl _ _, w, rv.monoG g⟩
  stop := fun ι' H' S S' g w h => by
    cases h
    exact ⟨rfl, vs, hq _ _ g, by rw [fix_len, r.length]; exact Nat.le_refl _⟩
theorem SrcOk.cell {n L : Nat} (ha : ι.cs[n]? = some a) : SrcOk K ι H (Itl K a) (cellS n L) where
  go := fun i rd e ι' H' S S' d g w h => by
    unfold cellS at e
    rw [List.getElem?_map] at e
    cases hr : (List.range L)[i]? with
    | none => rw [hr] at e; cases e
    | some j =>
      rw [hr] at e
      have ej : j = i := by
        obtain ⟨h1, h2⟩ := List.getElem?_eq_some_iff.mp hr
        simpa using h2.symm
      subst ej
      cases e
      replace h : rdC n L j S = .ok d S' := h
      unfold rdC at h
      split at h
      · rename_i ys hs
        split at h
        · split at h
          · rename_i y hy
            cases h
            obtain ⟨b, vs, h1, h2, h3, h4⟩ := w.lstAt hs
            rw [g.pre _ _ ha] at h1; cases h1
            obtain ⟨v, e2, rv⟩ := h4.get hy
            refine ⟨rfl, ⟨vs, v, .inl (.inl h2), e2⟩, fun u H'' y => ?_⟩
            obtain ⟨rfl, y⟩ := y
            have z := y vs (.inl (.inl h2))
            rw [e2] at z; cases z
            exact ⟨.refl _ _, w, rv⟩
          · cases h
        · cases h
      · cases h
  stop := fun ι' H' S S' g w h => by
    replace h : finC n L S = .ok () S' := h
    unfold finC at h
    split at h
    · rename_i ys hs
      split at h
      · rename_i hl
        cases h
        obtain ⟨b, vs, h1, h2, h3, h4⟩ := w.lstAt hs
        rw [g.pre _ _ ha] at h1; cases h1
        exact ⟨rfl, vs, .inl (.inl h2), by unfold cellS; rw [List.length_map, List.length_range, h4.length, hl]; exact Nat.le_refl _⟩
      · cases h
    · cases h
end
/-- a list, a tuple -/
def srcOf (d : D) : M Src := fun S => match d with
  | .ref n => match S[n]? with
    | some (.lst xs) => .ok (cellS n xs.length) S
    | _ => .bad
  | .lst xs => .ok (fixS xs) S
  | .rol xs => .ok (fixS xs) S
  | .tup xs => .ok (fixS xs) S
  | .tpk xs => .ok (fixS xs) S
  | _ => .bad
def iSeq (K : PySem.W.Frag) (tl : TE) : TI := fun σ H R => tl σ H fun x H1 => ∃ a, x = .ref a ∧ (((∃ xs, SqL K H1 a xs) ∧ R (Itl K a) H1) ∨ ((∃ xs, SqT K H1 a xs) ∧ R (Itt K a) H1))
theorem pi_seq {X : Cx} {tg l : Expr} {tl : TE} (hl : PE X l tl) : PI X tg l (iSeq X.K tl) := by
  refine ⟨fun pins s σ H R I h => ?_⟩
  refine thn (hl.run pins s σ H _ I h) fun v s1 ⟨x, H1, I1, r1, q1⟩ => ?_
  obtain ⟨a, e, q1⟩ := q1
  subst e
  cases r1
  have fr : ∀ b ∈ [s1.heap.objs.size], FpOk X pins H1 b := fun b hb => by
    have e : b = s1.heap.objs.size := by simpa using hb
    subst e
    exact I1.fpOk (Nat.le_refl _) (I1.hok.fresh (Nat.le_refl _))
  rcases q1 with ⟨⟨xs, hq⟩, q⟩ | ⟨⟨xs, hq⟩, q⟩
  · obtain ⟨its, rv, p, hz⟩ := I1.list hq
    refine wpAny_pyIter_list p.isList ?_
    exact ⟨s1.heap.objs.size, [s1.heap.objs.size], _, _, H1, rfl, I1.kept (t' := s1.toks) fun b o e => Heap.get?_push_of_some _ e, turn_list a _, ⟨_, Heap.get?_push_size _ rfl, rfl, rfl⟩, fr, q⟩
  · obtain ⟨its, rv, p, hz⟩ := I1.tuple hq
    refine wpAny_pyIter_tuple (show s1.heap.IsTuple a its.toArray from p) ?_
    exact ⟨s1.heap.objs.size, [s1.heap.objs.size], _, _, H1, rfl, I1.kept (t' := s1.toks) fun b o e => Heap.get?_push_of_some _ e, turn_tuple a _, ⟨_, Heap.get?_push_size _ rfl, rfl, rfl⟩, fr, q⟩
def ciSeq {e : Ev} (x : CE e) : CI (fun Φ ρ => (e Φ ρ).bind srcOf) where
  py := x.py
  chk := x.chk
  pr := false
  pl := x.pl
  ok := fun L Φ X g q tg _ => PI.weak (pi_seq (x.ok L Φ X g q)) fun σ H R ⟨ρ, S, ι, w, en, f⟩ => ⟨ρ, S, ι, w, en, Fin.bind f fun d S1 ι1 H1 v e1 w1 r1 f1 => by
    cases d with
    | ref n =>
      replace f1 : Fin X.K (SrcR X.K) ι1 H1 R (match S1[n]? with | some (.lst xs) => .ok (cellS n xs.length) S1 | _ => .bad) := f1
      split at f1
      · rename_i xs hs
        obtain ⟨a, h1, h2⟩ := relD_ref.mp r1
        obtain ⟨b, vs, h3, h4, h5, h6⟩ := w1.lstAt hs
        rw [h2] at h3; cases h3
        exact ⟨a, h1, .inl ⟨⟨vs, .inl (.inl h4)⟩, f1 ι1 H1 _ (.refl _ _) w1 (SrcOk.cell h2)⟩⟩
      · exact f1.elim
    | lst xs =>
      obtain ⟨a, vs, h1, h2, h3, h4, h5⟩ := relD_lst.mp r1
      exact ⟨a, h1, .inl ⟨⟨vs, .inl (.inl h2)⟩, f1 ι1 H1 _ (.refl _ _) w1 (SrcOk.list (fun ι' H' g => .inl (.inl (g.keep _ _ h4 h2))) h5)⟩⟩
    | rol xs =>
      obtain ⟨a, vs, h1, h2, h3, h5⟩ := relD_rol.mp r1
      have hq : ∀ ι' H', Grow ι1 H1 ι' H' → SqL X.K H' a vs := fun ι' H' g => h2.elim (fun ⟨o, z⟩ => .inl (.inr ⟨o, g.frz _ _ _ z⟩)) .inr
      exact ⟨a, h1, .inl ⟨⟨vs, hq _ _ (.refl _ _)⟩, f1 ι1 H1 _ (.refl _ _) w1 (SrcOk.list hq h5)⟩⟩
    | tup xs =>
      obtain ⟨a, vs, h1, h2, h3, h5⟩ := relD_tup.mp r1
      exact ⟨a, h1, .inr ⟨⟨vs, h2.sq⟩, f1 ι1 H1 _ (.refl _ _) w1 (SrcOk.tup (fun ι' H' g => (g.tupS h2).sq) h5)⟩⟩
    | tpk xs =>
      obtain ⟨a, vs, h1, h2, h3, h5⟩ := relD_tpk.mp r1
      exact ⟨a, h1, .inr ⟨⟨vs, h2⟩, f1 ι1 H1 _ (.refl _ _) w1 (SrcOk.tup (fun ι' H' g => g.sqT h2) h5)⟩⟩
    | _ => exact f1.elim⟩
/-! range -/
def rngD (lo : Int) (n : Nat) : List D := (List.range n).map fun i => D.int (lo + (i : Nat))
def rngC (lo c : Int) (n : Nat) : List D := (List.range n).map fun i => D.int (lo + (i : Nat) * c)
section
variable {K : PySem.W.Frag} {ι : Ix} {H : Hp}
theorem range_get {n i j : Nat} (h : (List.range n)[i]? = some j) : i < n ∧ j = i := by
  obtain ⟨h1, h2⟩ := List.getElem?_eq_some_iff.mp h
  simp at h1 h2
  exact ⟨h1, h2.symm⟩
theorem SrcOk.rng {lo : Int} {n : Nat} : SrcOk K ι H (Itr lo n) (fixS (rngD lo n)) where
  go := fun i rd e ι' H' S S' d g w h => by
    obtain ⟨d', e1, rfl⟩ := fix_get e
    cases h
    unfold rngD at e1
    rw [List.getElem?_map] at e1
    cases hr : (List.range n)[i]? with
    | none => rw [hr] at e1; cases e1
    | some j =>
      rw [hr] at e1; cases e1
      obtain ⟨hn, rfl⟩ := range_get hr
      refine ⟨rfl, hn, fun u H'' y => ?_⟩
      obtain ⟨rfl, rfl⟩ := y
      exact ⟨.refl _ _, w, relD_int.mpr rfl⟩
  stop := fun ι' H' S S' g w h => by
    cases h
    exact ⟨rfl, by rw [fix_len]; unfold rngD; simp [Itr]⟩
theorem SrcOk.rngC {lo c : Int} {n : Nat} : SrcOk K ι H (Itc lo c n) (fixS (G.rngC lo c n)) where
  go := fun i rd e ι' H' S S' d g w h => by
    obtain ⟨d', e1, rfl⟩ := fix_get e
    cases h
    unfold G.rngC at e1
    rw [List.getElem?_map] at e1
    cases hr : (List.range n)[i]? with
    | none => rw [hr] at e1; cases e1
    | some j =>
      rw [hr] at e1; cases e1
      obtain ⟨hn, rfl⟩ := range_get hr
      refine ⟨rfl, hn, fun u H'' y => ?_⟩
      obtain ⟨rfl, rfl⟩ := y
      exact ⟨.refl _ _, w, relD_int.mpr rfl⟩
  stop := fun ι' H' S S' g w h => by
    cases h
    exact ⟨rfl, by rw [fix_len]; unfold G.rngC; simp [Itc]⟩
end
def sRng (ds : List D) : M Src := fun S => match ds with
  | [.int j] => if -(2 ^ 62) ≤ j ∧ j < 2 ^ 62 then .ok (fixS (rngD 0 j.toNat)) S else .bad
  | [.int i, .int j] => if -(2 ^ 62) ≤ i ∧ i < 2 ^ 62 ∧ -(2 ^ 62) ≤ j ∧ j < 2 ^ 62 then .ok (fixS (rngD i (j - i).toNat)) S else .bad
  | [.int i, .int j, .int c] => if c ≠ 0 ∧ c.natAbs < 1073741824 ∧ Builtin.Range.small i j c = true ∧ 0 ≤ Builtin.Range.rangeSize i j c then .ok (fixS (rngC i c (Builtin.Range.rangeSize i j c).toNat)) S else .bad
  | _ => .bad
def vSrc (f : List D → M Src) (r : Ph → Ro → M (List D)) : Sv := fun Φ ρ => (r Φ ρ).bind f
theorem relDs_ints {K : PySem.W.Frag} {ι : Ix} {H : Hp} {is : List Int} {vs : List V} (r : RelDs K ι H (is.map D.int) vs) : vs = is.map V.int := by
  induction is generalizing vs with
  | nil => unfold RelDs at r; exact r
  | cons i is ih =>
    unfold RelDs at r
    obtain ⟨v, vr, h1, h2, h3⟩ := r
    rw [h1, relD_int.mp h2, ih h3]; rfl
def ciRng1 {a : Ev} (x : CE a) (p pos : Pos) : CI (vSrc sRng (aCons a aNil)) where
  py := .Call (.Name "range" p) [x.py] [] pos
  chk := fun L => bltB L "range" && x.chk L
  pr := false
  pl := rfl
  ok := fun L Φ X g q tg _ => by
    obtain ⟨q1, q2⟩ := ba q
    obtain ⟨g1, g2, _, _⟩ := bltB_ok g q1
    refine PI.weak (pi_range1 g1 g2 ((caCons x caNil).ok L Φ X g (by show (x.chk L && true) = true; rw [q2]; rfl)) (starEach_pl x.pl [] _)) fun σ H R ⟨ρ, S, ι, w, en, f⟩ => ⟨ρ, S, ι, w, en, Fin.bindE f fun ds S1 ι1 H1 vs e0 e1 w1 r1 f1 => ?_⟩
    have l : ds.length = 1 := (caCons x caNil).len rfl _ _ _ _ _ e0
    unfold sRng at f1
    split at f1
    · rename_i j
      split at f1
      · rename_i hj
        exact ⟨j, relDs_ints (is := [j]) r1, hj.1, hj.2, f1 ι1 H1 _ (.refl _ _) w1 SrcOk.rng⟩
      · exact f1.elim
    · simp at l
    · simp at l
    · exact f1.elim
def ciRng2 {a b : Ev} (x : CE a) (y : CE b) (p pos : Pos) : CI (vSrc sRng (aCons a (aCons b aNil))) where
  py := .Call (.Name "range" p) [x.py, y.py] [] pos
  chk := fun L => bltB L "range" && (x.chk L && y.chk L)
  pr := false
  pl := rfl
  ok := fun L Φ X g q tg _ => by
    obtain ⟨q1, q2⟩ := ba q
    obtain ⟨q2, q3⟩ := ba q2
    obtain ⟨g1, g2, _, _⟩ := bltB_ok g q1
    refine PI.weak (pi_range2 g1 g2 ((caCons x (caCons y caNil)).ok L Φ X g (by show (x.chk L && (y.chk L && true)) = true; rw [q2, q3]; rfl)) (by rw [starEach_pl x.pl, starEach_pl y.pl]; rfl) (starEach_pl y.pl [] _)) fun σ H R ⟨ρ, S, ι, w, en, f⟩ => ⟨ρ, S, ι, w, en, Fin.bindE f fun ds S1 ι1 H1 vs e0 e1 w1 r1 f1 => ?_⟩
    have l : ds.length = 2 := (caCons x (caCons y caNil)).len rfl _ _ _ _ _ e0
    unfold sRng at f1
    split at f1
    · simp at l
    · rename_i i j
      split at f1
      · rename_i hj
        exact ⟨i, j, relDs_ints (is := [i, j]) r1, hj, f1 ι1 H1 _ (.refl _ _) w1 SrcOk.rng⟩
      · exact f1.elim
    · simp at l
    · exact f1.elim
def ciRng3 {a b c : Ev} (x : CE a) (y : CE b) (z : CE c) (p pos : Pos) : CI (vSrc sRng (aCons a (aCons b (aCons c aNil)))) where
  py := .Call (.Name "range" p) [x.py, y.py, z.py] [] pos
  chk := fun L => bltB L "range" && (x.chk L && (y.chk L && z.chk L))
  pr := false
  pl := rfl
  ok := fun L Φ X g q tg _ => by
    obtain ⟨q1, q2⟩ := ba q
    obtain ⟨q2, q3⟩ := ba q2
    obtain ⟨q3, q4⟩ := ba q3
    obtain ⟨g1, g2, _, _⟩ := bltB_ok g q1
    refine PI.weak (pi_range3 g1 g2 ((caCons x (caCons y (caCons z caNil))).ok L Φ X g (by show (x.chk L && (y.chk L && (z.chk L && true))) = true; rw [q2, q3, q4]; rfl)) (starEach_pl x.pl _ _) (plain_any (es := [y.py, z.py]) (by simp [y.pl, z.pl]) _ _)) fun σ H R ⟨ρ, S, ι, w, en, f⟩ => ⟨ρ, S, ι, w, en, Fin.bindE f fun ds S1 ι1 H1 vs e0 e1 w1 r1 f1 => ?_⟩
    have l : ds.length = 3 := (caCons x (caCons y (caCons z caNil))).len rfl _ _ _ _ _ e0
    unfold sRng at f1
    split at f1
    · simp at l
    · simp at l
    · rename_i i j k
      split at f1
      · rename_i hj
        obtain ⟨h1, h2, h3, h4⟩ := hj
        exact ⟨i, j, k, _, relDs_ints (is := [i, j, k]) r1, ⟨h1, h2, h3, by omega⟩, f1 ι1 H1 _ (.refl _ _) w1 SrcOk.rngC⟩
      · exact f1.elim
    · exact f1.elim
/-! enumerate, zip -/
def enumD (k : Nat) : List D → List D
  | [] => []
  | d :: r => .tpk [.int (k : Nat), d] :: enumD (k + 1) r
theorem enumD_len : ∀ (k : Nat) (xs : List D), (enumD k xs).length = xs.length
  | _, [] => rfl
  | k, d :: r => by unfold enumD; rw [List.length_cons, List.length_cons, enumD_len (k + 1) r]
theorem enumD_get : ∀ {k : Nat} {xs : List D} {i : Nat} {d : D}, (enumD k xs)[i]? = some d → ∃ x, xs[i]? = some x ∧ d = .tpk [.int ((k + i : Nat)), x]
  | k, [], i, d, e => by unfold enumD at e; simp at e
  | k, x :: r, 0, d, e => by unfold enumD at e; simp at e; exact ⟨x, rfl, e.symm⟩
  | k, x :: r, i + 1, d, e => by
    unfold enumD at e
    obtain ⟨y, h1, h2⟩ := enumD_get (k := k + 1) (xs := r) (i := i) (d := d) (by simpa using e)
    exact ⟨y, by simpa using h1, by rw [h2]; congr 4; omega⟩
theorem two_le : 2 ≤ sizeLine := by decide
section
variable {K : PySem.W.Frag} {ι : Ix} {H : Hp} {S : Store} {T : Addr}
theorem pair_new (w : World K ι H S) {x y : D} {vx vy : V} (h : H T = none) (rx : RelD K ι H x vx) (ry : RelD K ι H y vy) : Ext ι H ι (upd H T (.tup [vx, vy])) ∧ World K ι (upd H T (.tup [vx, vy])) S ∧ RelD K ι (upd H T (.tup [vx, vy])) (.tpk [x, y]) (.ref T) :=
  ⟨.fresh h, w.fresh h, relD_tpk.mpr ⟨T, [vx, vy], rfl, .inl (.inl upd_same), two_le, .cons (rx.mono (.fresh h)) (.cons (ry.mono (.fresh h)) .nil)⟩⟩
theorem SrcOk.enumL {a : Addr} {xs : List D} {vs : List V} (hq : ∀ ι' H', Grow ι H ι' H' → SqL K H' a vs) (r : RelDs K ι H xs vs) : SrcOk K ι H (Ite K a) (fixS (enumD 0 xs)) where
  go := fun i rd e ι' H' S S' d g w h => by
    obtain ⟨d', e1, rfl⟩ := fix_get e
    cases h
    obtain ⟨x, e3, rfl⟩ := enumD_get e1
    obtain ⟨v, e2, rv⟩ := r.get e3
    refine ⟨rfl, ⟨vs, v, hq _ _ g, e2⟩, fun u H'' y => ?_⟩
    obtain ⟨T, z, rfl, hT, rfl, y⟩ := y
    have q := y vs (hq _ _ g)
    rw [e2] at q; cases q
    exact pair_new w hT (relD_int.mpr (by rw [Nat.zero_add])) (rv.monoG g)
  stop := fun ι' H' S S' g w h => by
    cases h
    exact ⟨rfl, vs, hq _ _ g, by rw [fix_len, enumD_len, r.length]; exact Nat.le_refl _⟩
theorem SrcOk.enumT {a : Addr} {xs : List D} {vs : List V} (hq : ∀ ι' H', Grow ι H ι' H' → SqT K H' a vs) (r : RelDs K ι H xs vs) : SrcOk K ι H (IteT K a) (fixS (enumD 0 xs)) where
  go := fun i rd e ι' H' S S' d g w h => by
    obtain ⟨d', e1, rfl⟩ := fix_get e
    cases h
    obtain ⟨x, e3, rfl⟩ := enumD_get e1
    obtain ⟨v, e2, rv⟩ := r.get e3
    refine ⟨rfl, ⟨vs, v, hq _ _ g, e2⟩, fun u H'' y => ?_⟩
    obtain ⟨T, z, rfl, hT, rfl, y⟩ := y
    have q := y vs (hq _ _ g)
    rw [e2] at q; cases q
    exact pair_new w hT (relD_int.mpr (by rw [Nat.zero_add])) (rv.monoG g)
  stop := fun ι' H' S S' g w h => by
    cases h
    exact ⟨rfl, vs, hq _ _ g, by rw [fix_len, enumD_len, r.length]; exact Nat.le_refl _⟩
end
/-- a list that is not written, a tuple: which, and the items -/
def fixOf (d : D) : Option (Bool × List D) := match d with
  | .lst xs => some (false, xs)
  | .rol xs => some (false, xs)
  | .tup xs => some (true, xs)
  | .tpk xs => some (true, xs)
  | _ => none
theorem fixOf_ok {K : PySem.W.Frag} {ι : Ix} {H : Hp} {d : D} {v : V} {b : Bool} {xs : List D} (r : RelD K ι H d v) (e : fixOf d = some (b, xs)) :
    ∃ a vs, v = .ref a ∧ RelDs K ι H xs vs ∧ (if b then ∀ ι' H', Grow ι H ι' H' → SqT K H' a vs else ∀ ι' H', Grow ι H ι' H' → SqL K H' a vs) := by
  cases d with
  | lst xs =>
    cases e
    obtain ⟨a, vs, h1, h2, h3, h4, h5⟩ := relD_lst.mp r
    exact ⟨a, vs, h1, h5, fun ι' H' g => .inl (.inl (g.keep _ _ h4 h2))⟩
  | rol xs =>
    cases e
    obtain ⟨a, vs, h1, h2, h3, h5⟩ := relD_rol.mp r
    exact ⟨a, vs, h1, h5, fun ι' H' g => h2.elim (fun ⟨o, z⟩ => .inl (.inr ⟨o, g.frz _ _ _ z⟩)) .inr⟩
  | tup xs =>
    cases e
    obtain ⟨a, vs, h1, h2, h3, h5⟩ := relD_tup.mp r
    exact ⟨a, vs, h1, h5, fun ι' H' g => (g.tupS h2).sq⟩
  | tpk xs =>
    cases e
    obtain ⟨a, vs, h1, h2, h3, h5⟩ := relD_tpk.mp r
    exact ⟨a, vs, h1, h5, fun ι' H' g => g.sqT h2⟩
  | _ => cases e
def sEnum (ds : List D) : M Src := fun S => match ds with
  | [d] => match fixOf d with
    | some (_, xs) => .ok (fixS (enumD 0 xs)) S
    | none => .bad
  | _ => .bad
def ciEnum {a : Ev} (x : CE a) (p pos : Pos) : CI (vSrc sEnum (aCons a aNil)) where
  py := .Call (.Name "enumerate" p) [x.py] [] pos
  chk := fun L => bltB L "enumerate" && x.chk L
  pr := true
  pl := rfl
  ok := fun L Φ X g q tg ht => by
    obtain ⟨q1, q2⟩ := ba q
    obtain ⟨g1, g2, _, _⟩ := bltB_ok g q1
    have ht := ht rfl
    cases tg with
    | Tuple es k tp =>
      refine PI.weak (pi_enumA g1 g2 ((caCons x caNil).ok L Φ X g (by show (x.chk L && true) = true; rw [q2]; rfl)) (starEach_pl x.pl [] _)) fun σ H R ⟨ρ, S, ι, w, en, f⟩ => ⟨ρ, S, ι, w, en, Fin.bind f fun ds S1 ι1 H1 vs e1 w1 r1 f1 => ?_⟩
      unfold sEnum at f1
      split at f1
      · rename_i d
        obtain ⟨v, e2, rv⟩ := relDs_one r1
        cases hf : fixOf d with
        | none => simp only [hf] at f1; exact f1.elim
        | some bx =>
          obtain ⟨b, xs⟩ := bx
          simp only [hf] at f1
          obtain ⟨a, us, h1, h2, h3⟩ := fixOf_ok rv hf
          refine ⟨a, us, by rw [e2, h1], ?_⟩
          cases b with
          | false => exact .inl ⟨h3 _ _ (.refl _ _), f1 ι1 H1 _ (.refl _ _) w1 (SrcOk.enumL h3 h2)⟩
          | true => exact .inr ⟨h3 _ _ (.refl _ _), f1 ι1 H1 _ (.refl _ _) w1 (SrcOk.enumT h3 h2)⟩
      · exact f1.elim
    | _ => cases ht
def zipD : List D → List D → List D
  | x :: xs, y :: ys => .tpk [x, y] :: zipD xs ys
  | _, _ => []
theorem zipD_get : ∀ {xs ys : List D} {i : Nat} {d : D}, (zipD xs ys)[i]? = some d → ∃ x y, xs[i]? = some x ∧ ys[i]? = some y ∧ d = .tpk [x, y]
  | [], ys, i, d, e => by unfold zipD at e; simp at e
  | x :: xs, [], i, d, e => by unfold zipD at e; simp at e
  | x :: xs, y :: ys, 0, d, e => by unfold zipD at e; simp at e; exact ⟨x, y, rfl, rfl, e.symm⟩
  | x :: xs, y :: ys, i + 1, d, e => by
    unfold zipD at e
    obtain ⟨a, b, h1, h2, h3⟩ := zipD_get (xs := xs) (ys := ys) (i := i) (d := d) (by simpa using e)
    exact ⟨a, b, by simpa using h1, by simpa using h2, h3⟩
theorem zipD_len : ∀ (xs ys : List D), (zipD xs ys).length = min xs.length ys.length
  | [], ys => by unfold zipD; simp
  | x :: xs, [] => by unfold zipD; simp
  | x :: xs, y :: ys => by unfold zipD; simp [zipD_len xs ys]
section
variable {K : PySem.W.Frag} {ι : Ix} {H : Hp}
theorem SrcOk.zipL {a b : Addr} {xs ys : List D} {vs us : List V} (hq : ∀ ι' H', Grow ι H ι' H' → SqL K H' a vs) (r : RelDs K ι H xs vs) (hq2 : ∀ ι' H', Grow ι H ι' H' → SqL K H' b us) (r2 : RelDs K ι H ys us) : SrcOk K ι H (Itz K a b) (fixS (zipD xs ys)) where
  go := fun i rd e ι' H' S S' d g w h => by
    obtain ⟨d', e1, rfl⟩ := fix_get e
    cases h
    obtain ⟨x, y, e3, e4, rfl⟩ := zipD_get e1
    obtain ⟨v, e5, rv⟩ := r.get e3
    obtain ⟨u, e6, ru⟩ := r2.get e4
    refine ⟨rfl, ⟨vs, us, v, u, hq _ _ g, hq2 _ _ g, e5, e6⟩, fun p H'' y => ?_⟩
    obtain ⟨T, z1, z2, rfl, hT, rfl, y1, y2⟩ := y
    have q := y1 vs (hq _ _ g)
    rw [e5] at q; cases q
    have q := y2 us (hq2 _ _ g)
    rw [e6] at q; cases q
    exact pair_new w hT (rv.monoG g) (ru.monoG g)
  stop := fun ι' H' S S' g w h => by
    cases h
    refine ⟨rfl, vs, us, hq _ _ g, hq2 _ _ g, ?_⟩
    rw [fix_len, zipD_len, r.length, r2.length]; omega
theorem SrcOk.zipT {a b : Addr} {xs ys : List D} {vs us : List V} (hq : ∀ ι' H', Grow ι H ι' H' → SqT K H' a vs) (r : RelDs K ι H xs vs) (hq2 : ∀ ι' H', Grow ι H ι' H' → SqT K H' b us) (r2 : RelDs K ι H ys us) : SrcOk K ι H (RZ.ItzT K a b) (fixS (zipD xs ys)) where
  go := fun i rd e ι' H' S S' d g w h => by
    obtain ⟨d', e1, rfl⟩ := fix_get e
    cases h
    obtain ⟨x, y, e3, e4, rfl⟩ := zipD_get e1
    obtain ⟨v, e5, rv⟩ := r.get e3
    obtain ⟨u, e6, ru⟩ := r2.get e4
    refine ⟨rfl, ⟨vs, us, v, u, hq _ _ g, hq2 _ _ g, e5, e6⟩, fun p H'' y => ?_⟩
    obtain ⟨T, z1, z2, rfl, hT, rfl, y1, y2⟩ := y
    have q := y1 vs (hq _ _ g)
    rw [e5] at q; cases q
    have q := y2 us (hq2 _ _ g)
    rw [e6] at q; cases q
    exact pair_new w hT (rv.monoG g) (ru.monoG g)
  stop := fun ι' H' S S' g w h => by
    cases h
    refine ⟨rfl, vs, us, hq _ _ g, hq2 _ _ g, ?_⟩
    rw [fix_len, zipD_len, r.length, r2.length]; omega
end
def sZip (ds : List D) : M Src := fun S => match ds with
  | [d, e] => match fixOf d, fixOf e with
    | some (b, xs), some (c, ys) => if b = c then .ok (fixS (zipD xs ys)) S else .bad
    | _, _ => .bad
  | _ => .bad
def ciZip {a b : Ev} (x : CE a) (y : CE b) (p pos : Pos) : CI (vSrc sZip (aCons a (aCons b aNil))) where
  py := .Call (.Name "zip" p) [x.py, y.py] [] pos
  chk := fun L => bltB L "zip" && (x.chk L && y.chk L)
  pr := true
  pl := rfl
  ok := fun L Φ X g q tg ht => by
    obtain ⟨q1, q2⟩ := ba q
    obtain ⟨q2, q3⟩ := ba q2
    obtain ⟨g1, g2, _, _⟩ := bltB_ok g q1
    have ht := ht rfl
    cases tg with
    | Tuple es k tp =>
      refine PI.weak (RZ.pi_zipA g1 g2 ((caCons x (caCons y caNil)).ok L Φ X g (by show (x.chk L && (y.chk L && true)) = true; rw [q2, q3]; rfl)) (starEach_pl x.pl _ _) (plain_any (es := [y.py]) (by simp [y.pl]) _ _)) fun σ H R ⟨ρ, S, ι, w, en, f⟩ => ⟨ρ, S, ι, w, en, Fin.bind f fun ds S1 ι1 H1 vs e1 w1 r1 f1 => ?_⟩
      unfold sZip at f1
      split at f1
      · rename_i d e
        obtain ⟨v, u, e2, rv, ru⟩ := relDs_two r1
        split at f1
        · rename_i b xs c ys hd he
          split at f1
          · rename_i hb
            subst hb
            obtain ⟨a, vs, h1, h2, h3⟩ := fixOf_ok rv hd
            obtain ⟨a', us, k1, k2, k3⟩ := fixOf_ok ru he
            refine ⟨a, a', vs, us, by rw [e2, h1, k1], ?_⟩
            cases b with
            | false => exact .inl ⟨h3 _ _ (.refl _ _), k3 _ _ (.refl _ _), f1 ι1 H1 _ (.refl _ _) w1 (SrcOk.zipL h3 h2 k3 k2)⟩
            | true => exact .inr ⟨h3 _ _ (.refl _ _), k3 _ _ (.refl _ _), f1 ι1 H1 _ (.refl _ _) w1 (SrcOk.zipT h3 h2 k3 k2)⟩
          · exact f1.elim
        · exact f1.elim
      · exact f1.elim
    | _ => cases ht
end G
end

section
set_option Elab.async false
set_option linter.all false
set_option maxRecDepth 100000
namespace G
open PySem PySem.Spec PyProof.Rows L2

/-! ### wipe -/
theorem wipe_set {σ : L2.St} {i : Nat} {x : Option V} : ∀ {vs : List Nat}, i ∈ vs → wipe (σ.set i x) vs = wipe σ vs
  | v :: vs, h => by
    unfold wipe
    by_cases hv : i ∈ vs
    · rw [wipe_set hv]
    · have hi : i = v := by
        rcases List.mem_cons.mp h with e | e
        · exact e
        · exact (hv e).elim
      subst hi
      have key : ∀ (vs : List Nat), i ∉ vs → wipe (σ.set i x) vs = (wipe σ vs).set i x := by
        intro vs
        induction vs with
        | nil => intro _; rfl
        | cons u us ih =>
          intro hn
          unfold wipe
          rw [ih (fun z => hn (List.mem_cons_of_mem _ z)), List.set_comm]
          exact fun z => hn (by rw [z]; exact List.mem_cons_self)
      rw [key vs hv, List.set_set]
theorem wipe_wipe {σ : L2.St} : ∀ {us vs : List Nat}, (∀ i ∈ us, i ∈ vs) → wipe (wipe σ us) vs = wipe σ vs
  | [], vs, _ => rfl
  | u :: us, vs, h => by
    show wipe ((wipe σ us).set u none) vs = wipe σ vs
    rw [wipe_set (h u List.mem_cons_self), wipe_wipe fun i hi => h i (List.mem_cons_of_mem _ hi)]

/-! ### targets -/
def locB (L : Lx) (x : Str) : Bool := match L.sc.names.lookup x with
  | some .local => true
  | some .cell => L.fn x
  | _ => false
theorem locB_ok {L : Lx} {Φ : Ph} {X : Cx} (g : Gd L Φ X) {x : Str} (h : locB L x = true) : Loc X.env.scope x ∧ (X.fn x = true ∨ X.env.scope.names.lookup x = some .local) := by
  unfold locB at h
  rw [g.sc]
  split at h
  · rename_i e; exact ⟨.inl e, .inr e⟩
  · rename_i e; exact ⟨.inr e, .inl (by rw [g.fn]; exact h)⟩
  · cases h
abbrev Gv := D → Ro → Option Ro
/-- a target of names -/
def tN (K : PySem.W.Frag) (ix : List Nat) (gv : Gv) : TG := fun v σ H Q => ∃ (d : D) (ρ : Ro) (S : Store) (ι : Ix), World K ι H S ∧ EnvOk K ι H ρ σ ∧ RelD K ι H d v ∧
  match gv d ρ with
  | some ρ' => ∀ σ', EnvOk K ι H ρ' σ' → (∀ vs, (∀ i ∈ ix, i ∈ vs) → wipe σ' vs = wipe σ vs) → Q σ' H
  | none => False
theorem PG.weak {X : Cx} {e : Expr} {t t' : TG} (h : PG X e t) (w : ∀ v σ H Q, t' v σ H Q → t v σ H Q) : PG X e t' := ⟨fun pins s σ H v u Q I r q => h.run pins s σ H v u Q I r (w _ _ _ _ q)⟩
structure CN (gv : Gv) where
  py : Expr
  chk : Lx → Bool
  ix : List Nat
  tu : Bool
  tuOk : tu = isTup py
  ok : ∀ (L : Lx) (Φ : Ph) (X : Cx), Gd L Φ X → chk L = true → PG X py (tN X.K ix gv)
def gNm (i : Nat) : Gv := fun d ρ => some (ρ.set i (some d))
def nmB (L : Lx) (i : Nat) (x : Str) : Bool := decide (L.N[i]? = some x) && locB L x
def cnName (i : Nat) (x : Str) (p : Pos) : CN (gNm i) where
  py := .Name x p
  chk := fun L => nmB L i x
  ix := [i]
  tu := false
  tuOk := rfl
  ok := fun L Φ X g q => by
    obtain ⟨q1, q2⟩ := ba q
    obtain ⟨h1, h2⟩ := locB_ok g q2
    refine PG.weak (pg_name (i := i) (by rw [g.N]; exact g.N ▸ g.nd) (by rw [g.N]; exact of_decide_eq_true q1) h1 h2) fun v σ H Q ⟨d, ρ, S, ι, w, e, r, f⟩ => ?_
    exact f _ (e.set r i) fun vs h => wipe_set (h i (by simp))
def setAll : List Nat → List D → Ro → Option Ro
  | [], [], ρ => some ρ
  | i :: is, x :: xs, ρ => setAll is xs (ρ.set i (some x))
  | _, _, _ => none
def gTu (is : List Nat) : Gv := fun d ρ => match d with
  | .tup xs => setAll is xs ρ
  | .tpk xs => setAll is xs ρ
  | _ => none
def gNames : List Nat → TGs
  | [] => gNil
  | i :: is => gCons (gName i) (gNames is)
def namePy (l : List (Nat × Str × Pos)) : List Expr := l.map fun t => .Name t.2.1 t.2.2
theorem assign_len (env : Env) : ∀ l : List (Nat × Str × Pos), (assignEach (namePy l) env).length = l.length
  | [] => rfl
  | t :: l => by
    show (assignEach (.Name t.2.1 t.2.2 :: namePy l) env).length = _
    have : assignEach (.Name t.2.1 t.2.2 :: namePy l) env = (false, assign (.Name t.2.1 t.2.2) env) :: assignEach (namePy l) env := rfl
    rw [this, List.length_cons, List.length_cons, assign_len env l]
theorem assign_st (env : Env) : ∀ l : List (Nat × Str × Pos), (assignEach (namePy l) env).findIdx? (·.1) = none
  | [] => rfl
  | t :: l => by
    have : assignEach (namePy (t :: l)) env = (false, assign (.Name t.2.1 t.2.2) env) :: assignEach (namePy l) env := rfl
    rw [this, List.findIdx?_cons, assign_st env l]
    rfl
theorem pgs_names {L : Lx} {Φ : Ph} {X : Cx} (g : Gd L Φ X) : ∀ l : List (Nat × Str × Pos), (l.all fun t => nmB L t.1 t.2.1) = true → PGs X (namePy l) (gNames (l.map (·.1)))
  | [], _ => pgs_nil
  | t :: l, q => by
    rw [List.all_cons] at q
    obtain ⟨q, q3⟩ := ba q
    obtain ⟨q1, q2⟩ := ba q
    obtain ⟨h1, h2⟩ := locB_ok g q2
    exact pgs_cons (pg_name (i := t.1) (by rw [g.N]; exact g.N ▸ g.nd) (by rw [g.N]; exact of_decide_eq_true q1) h1 h2) (pgs_names g l q3) rfl
theorem setAll_ok {K : PySem.W.Frag} {ι : Ix} {H : Hp} {Q : L2.St → Hp → Prop} {ρ' : Ro} : ∀ {is : List Nat} {xs : List D} {vs : List V} {ρ : Ro} {σ : L2.St}, EnvOk K ι H ρ σ → RelDs K ι H xs vs → setAll is xs ρ = some ρ' →
    (∀ σ', EnvOk K ι H ρ' σ' → (∀ vs, (∀ i ∈ is, i ∈ vs) → wipe σ' vs = wipe σ vs) → Q σ' H) → vs.length = is.length ∧ gNames is vs σ H Q
  | [], [], vs, ρ, σ, e, r, h, q => by
    unfold RelDs at r
    subst r
    cases h
    exact ⟨rfl, rfl, q σ e fun _ _ => rfl⟩
  | i :: is, x :: xs, vs, ρ, σ, e, r, h, q => by
    unfold RelDs at r
    obtain ⟨v, vr, h1, h2, h3⟩ := r
    subst h1
    have h : setAll is xs (ρ.set i (some x)) = some ρ' := h
    obtain ⟨a, b⟩ := setAll_ok (e.set h2 i) h3 h (fun σ' e' hw => q σ' e' fun vs hv => by
      rw [hw vs fun j hj => hv j (List.mem_cons_of_mem _ hj), wipe_set (hv i List.mem_cons_self)])
    exact ⟨by rw [List.length_cons, List.length_cons, a], v, vr, rfl, b⟩
  | [], x :: xs, vs, ρ, σ, e, r, h, q => by cases h
  | i :: is, [], vs, ρ, σ, e, r, h, q => by cases h
def cnTup (l : List (Nat × Str × Pos)) (k : Nat) (p : Pos) : CN (gTu (l.map (·.1))) where
  py := .Tuple (namePy l) k p
  chk := fun L => l.all fun t => nmB L t.1 t.2.1
  ix := l.map (·.1)
  tu := true
  tuOk := rfl
  ok := fun L Φ X g q => by
    refine PG.weak (pg_tup (n := l.length) g.calm (pgs_names g l q) (assign_len _ l) (assign_st _ l)) fun v σ H Q ⟨d, ρ, S, ι, w, e, r, f⟩ => ?_
    have go : ∀ (xs : List D) (a : Addr) (vs : List V), v = .ref a → SqT X.K H a vs → RelDs X.K ι H xs vs → (match setAll (l.map (·.1)) xs ρ with
        | some ρ' => ∀ σ', EnvOk X.K ι H ρ' σ' → (∀ vs, (∀ i ∈ l.map (·.1), i ∈ vs) → wipe σ' vs = wipe σ vs) → Q σ' H
        | none => False) → gTup X.K l.length (gNames (l.map (·.1))) v σ H Q := by
      intro xs a vs ev hq rs hf
      cases hs : setAll (l.map (·.1)) xs ρ with
      | none => rw [hs] at hf; exact hf.elim
      | some ρ' =>
        rw [hs] at hf
        obtain ⟨h1, h2⟩ := setAll_ok e rs hs hf
        exact ⟨a, vs, ev, hq, by rw [h1, List.length_map], h2⟩
    cases d with
    | tup xs =>
      obtain ⟨a, vs, h1, h2, h3, h4⟩ := relD_tup.mp r
      exact go xs a vs h1 h2.sq h4 f
    | tpk xs =>
      obtain ⟨a, vs, h1, h2, h3, h4⟩ := relD_tpk.mp r
      exact go xs a vs h1 h2 h4 f
    | _ => exact f.elim

/-! ### tests of a clause -/
structure CTs (tv : Tv) where
  py : List Expr
  chk : Lx → Bool
  ok : ∀ (L : Lx) (Φ : Ph) (X : Cx), Gd L Φ X → chk L = true → PTs X py (tT X.K (tv Φ))
theorem PTs.weak {X : Cx} {e : List Expr} {t t' : TT} (h : PTs X e t) (w : ∀ σ H Q, t' σ H Q → t σ H Q) : PTs X e t' := ⟨fun pins s σ H Q I q => h.run pins s σ H Q I (w _ _ _ q)⟩
def vYes : Tv := fun _ _ => M.ok true
def ctsNil : CTs vYes where
  py := []
  chk := fun _ => true
  ok := fun L Φ X g q => PTs.weak pts_nil fun σ H Q ⟨ρ, S, ι, w, e, f⟩ => f.now w rfl
def ctsOne {t : Tv} (c : CT t) : CTs t where
  py := [c.py]
  chk := c.chk
  ok := fun L Φ X g q => pts_one (c.ok L Φ X g q)

/-! ### a list in the making -/
section
variable {K : PySem.W.Frag} {ι ι' : Ix} {H H' : Hp} {S : Store} {p : Addr}
theorem Ext.updNew {o : HO} (e : Ext ι H ι' H') (hp : H p = none) : Ext ι H ι' (upd H' p o) :=
  ⟨⟨e.pre, e.new, fun a u ha h => by rw [upd_ne (ne_of_none h hp)]; exact e.keep a u ha h, fun a u h => by rw [upd_ne (ne_of_none h hp)]; exact e.tup a u h, fun a o u h => by rw [upd_ne (ne_of_none h hp)]; exact e.frz a o u h⟩,
   e.pve, fun a u ha h => by rw [upd_ne (ne_of_none h hp)]; exact e.pvk a u ha h⟩
theorem Ext.toPriv (e : Ext ι H ι' H') (hp : H p = none) : Grow ι H (ι'.priv p) H' :=
  ⟨e.pre, fun a h => by
    rcases h with h | h
    · exact e.new a (.inl h)
    · rcases List.mem_cons.mp h with h | h
      · rw [h]; exact .inr hp
      · exact e.new a (.inr h), e.keep, e.tup, e.frz⟩
theorem Ext.unpriv {o : HO} (e : Ext (ι.priv p) H ι' H') (w : World K ι' H' S) (hp : H p = some o) : ∃ κ : Ix, ι' = κ.priv p ∧ Ext ι H κ H' := by
  have hpv : p ∈ ι'.pv := by rw [e.pve]; exact List.mem_cons_self
  refine ⟨⟨ι'.cs, ι.pv⟩, ?_, ⟨e.pre, fun a h => ?_, fun a u ha h => ?_, e.tup, e.frz⟩, rfl, fun a u ha h => e.pvk a u (List.mem_cons_of_mem _ ha) h⟩
  · have := e.pve
    cases ι'
    simp only [Ix.priv] at this ⊢
    rw [this]
  · rcases h with h | h
    · rcases e.new a (.inl h) with h1 | h1
      · rcases h1 with h1 | h1
        · exact .inl (.inl h1)
        · rcases List.mem_cons.mp h1 with h2 | h2
          · rw [h2] at h; exact (w.apt p hpv h).elim
          · exact .inl (.inr h2)
      · exact .inr h1
    · exact .inl (.inr h)
  · by_cases hap : a = p
    · subst hap
      exact e.pvk a u List.mem_cons_self h
    · exact e.keep a u (fun hm => by
        rcases hm with hm | hm
        · exact ha (.inl hm)
        · rcases List.mem_cons.mp hm with z | z
          · exact hap z
          · exact ha (.inr z)) h
/-- it becomes a cell -/
theorem Grow.pvCell : Grow (ι.priv p) H (ι.add p) H :=
  ⟨fun n a h => by
      have h : ι.cs[n]? = some a := h
      have hl := (List.getElem?_eq_some_iff.mp h).1
      show (ι.cs ++ [p])[n]? = some a
      rw [List.getElem?_append_left hl]; exact h,
   fun a h => by
      rcases h with h | h
      · rcases List.mem_append.mp h with h | h
        · exact .inl (.inl h)
        · rw [List.mem_singleton.mp h]; exact .inl (.inr List.mem_cons_self)
      · exact .inl (.inr (List.mem_cons_of_mem _ h)), fun _ _ _ h => h, fun _ _ h => h, fun _ _ _ h => h⟩
theorem World.pvCell (w : World K (ι.priv p) H S) {c : Cell} (nv : p ∉ ι.pv) (hb : D.bels S.length c.items = true) (hc : CellR K (ι.add p) H p c) : World K (ι.add p) H (S ++ [c]) := by
  have np : p ∉ ι.cs := w.apt p List.mem_cons_self
  have wl : ι.cs.length = S.length := w.len
  refine ⟨by simp [wl, Ix.add], ?_, fun a ha => w.prv a (List.mem_cons_of_mem _ ha), fun a ha z => ?_, fun n x e => ?_, fun n x e => ?_⟩
  · show (ι.cs ++ [p]).Nodup
    rw [List.nodup_append]
    exact ⟨w.nd, (by simp), fun a ha b hb z => by rw [List.mem_singleton.mp hb] at z; exact np (z ▸ ha)⟩
  · have z : a ∈ ι.cs ++ [p] := z
    rcases List.mem_append.mp z with z | z
    · exact w.apt a (List.mem_cons_of_mem _ ha) z
    · rw [List.mem_singleton.mp z] at ha; exact nv ha
  · by_cases hn : n < S.length
    · rw [List.getElem?_append_left hn] at e; exact w.bel n x e
    · rw [List.getElem?_append_right (by omega)] at e
      have h0 : n - S.length = 0 := by
        have := (List.getElem?_eq_some_iff.mp e).1
        simp at this; omega
      rw [h0] at e
      cases e
      have : n = S.length := by omega
      rw [this]; exact hb
  · by_cases hn : n < S.length
    · rw [List.getElem?_append_left hn] at e
      obtain ⟨a, h1, h2⟩ := w.cell n x e
      exact ⟨a, Grow.pvCell (H := H).pre n a h1, h2.mono .pvCell fun u z => z⟩
    · rw [List.getElem?_append_right (by omega)] at e
      have h0 : n - S.length = 0 := by
        have := (List.getElem?_eq_some_iff.mp e).1
        simp at this; omega
      rw [h0] at e
      cases e
      exact ⟨p, by show (ι.cs ++ [p])[n]? = some p; rw [List.getElem?_append_right (by rw [wl]; omega), wl, h0]; rfl, hc⟩
theorem Ext.toCell (e : Ext ι H ι' H') (hp : H p = none) : Ext ι H (ι'.add p) H' :=
  ⟨⟨fun n a h => Grow.pvCell (H := H').pre n a (e.pre n a h), fun a h => by
      rcases h with h | h
      · rcases List.mem_append.mp h with h | h
        · exact e.new a (.inl h)
        · rw [List.mem_singleton.mp h]; exact .inr hp
      · exact e.new a (.inr h), e.keep, e.tup, e.frz⟩, e.pve, e.pvk⟩
end
/-- the list that is done, as a value -/
theorem Fin.lcDone {K : PySem.W.Frag} {ι ι' : Ix} {H H' : Hp} {S : Store} {p : Addr} {Q : VK} {m : Bool} {acc : List D} {av : List V} (f : Fin K (RelD K) ι H Q (mkLst m acc S)) (e : Ext ι H ι' H') (hp : H p = none) (w0 : ∀ a ∈ ι.pv, ∃ xs, H a = some (.lst xs))
    (w : World K (ι'.priv p) H' S) (h : H' p = some (.lst av)) (r : RelDs K (ι'.priv p) H' acc av) (hz : av.length ≤ sizeLine) : Q (.ref p) H' := by
  have nv : p ∉ ι'.pv := fun z => by
    rw [e.pve] at z
    obtain ⟨xs, q⟩ := w0 p z
    rw [hp] at q; cases q
  unfold mkLst at f
  split at f
  · split at f
    · rename_i hb
      exact f (ι'.add p) H' _ (e.toCell hp) (w.pvCell nv hb ⟨av, h, hz, r.monoG .pvCell⟩) (relD_ref.mpr ⟨p, rfl, by
        show (ι'.cs ++ [p])[S.length]? = some p
        have : ι'.cs.length = S.length := w.len
        rw [← this]; simp⟩)
    · exact f.elim
  · exact f ι' H' _ e w.done (relD_lst.mpr ⟨p, av, rfl, h, hz, fun z => by
      rcases z with z | z
      · exact w.apt p List.mem_cons_self z
      · exact nv z, r.monoG .done⟩)
theorem Fin.step {K : PySem.W.Frag} {ι κ : Ix} {H G : Hp} {S : Store} {α β γ δ : Type} {R1 : Ix → Hp → α → β → Prop} {R2 : Ix → Hp → γ → δ → Prop} {Q : δ → Hp → Prop} {Q1 : β → Hp → Prop} {m : M α} {f : α → M γ}
    (h : Fin K R2 ι H Q (M.bind m f S))
    (k : ∀ a S1 ι1 H1 b, m S = .ok a S1 → Ext κ G ι1 H1 → World K ι1 H1 S1 → R1 ι1 H1 a b → Fin K R2 ι H Q (f a S1) → Q1 b H1) : Fin K R1 κ G Q1 (m S) := by
  unfold M.bind at h
  cases q : m S with
  | ok a S1 =>
    rw [q] at h
    exact fun ι1 H1 b e w r => k a S1 ι1 H1 b q e w r h
  | exc c fs S1 => rw [q] at h; exact h.elim
  | bad => rw [q] at h; exact h.elim
theorem M.assoc {α β γ : Type} (m : M α) (f : α → M β) (g : β → M γ) : M.bind (M.bind m f) g = M.bind m fun x => M.bind (f x) g := by
  funext S; unfold M.bind; cases m S <;> rfl

/-! ### [e for t in src if ..] -/
def tgM (gv : Gv) (d : D) (ρ : Ro) : M Ro := fun S => match gv d ρ with
  | some ρ' => .ok ρ' S
  | none => .bad
def lc1 (fin : M Unit) (gv : Gv) (t : Ro → M Bool) (e : Ro → M D) (ρ : Ro) : List (M D) → M (List D)
  | [] => fin.bind fun _ => M.ok []
  | rd :: r => rd.bind fun d => (tgM gv d ρ).bind fun ρ1 => (t ρ1).bind fun b => if b then (e ρ1).bind fun y => (lc1 fin gv t e ρ r).bind fun ys => M.ok (y :: ys) else lc1 fin gv t e ρ r
def lcF (m : Bool) (ys : List D) : M D := if ys.length ≤ 16777216 then mkLst m ys else M.bad
def eLc (m : Bool) (sv : Sv) (gv : Gv) (tv : Tv) (ev : Ev) (vs : List Nat) : Ev := fun Φ ρ => (sv Φ ρ).bind fun s => (lc1 s.fin gv (tv Φ) (ev Φ) (wipeR ρ vs) s.rd).bind (lcF m)
/-- the list in the making at a turn: what holds of it -/
structure Mk (K : PySem.W.Frag) (ι1 : Ix) (H1 : Hp) (ιb : Ix) (Hb : Hp) (P : Addr) (ιc : Ix) (H : Hp) (S : Store) (av : List V) (acc : List D) : Prop where
  ex : Ext ι1 H1 ιc H
  w : World K (ιc.priv P) H S
  at' : H P = some (.lst av)
  ra : RelDs K (ιc.priv P) H acc av
  gr : Grow ιb Hb (ιc.priv P) H
section
variable {K : PySem.W.Frag} {ι1 ιb ιc : Ix} {H1 Hb H : Hp} {P : Addr} {S : Store} {av : List V} {acc : List D}
/-- a step -/
theorem Mk.step {ι' : Ix} {H' : Hp} {S' : Store} (k : Mk K ι1 H1 ιb Hb P ιc H S av acc) (e : Ext (ιc.priv P) H ι' H') (w : World K ι' H' S') : ∃ κ : Ix, ι' = κ.priv P ∧ Mk K ι1 H1 ιb Hb P κ H' S' av acc := by
  obtain ⟨κ, h, x⟩ := Ext.unpriv e w k.at'
  subst h
  exact ⟨κ, rfl, k.ex.trans x, w, e.pvk P _ List.mem_cons_self k.at', k.ra.mono e, k.gr.trans e.toGrow⟩
theorem Mk.app (k : Mk K ι1 H1 ιb Hb P ιc H S av acc) (hp : H1 P = none) {y : D} {v : V} (r : RelD K (ιc.priv P) H y v) : Mk K ι1 H1 ιb Hb P ιc (upd H P (.lst (av ++ [v]))) S (av ++ [v]) (acc ++ [y]) :=
  have gw : Grow (ιc.priv P) H (ιc.priv P) (upd H P (.lst (av ++ [v]))) := .write k.w (.inr List.mem_cons_self)
  ⟨k.ex.updNew hp, k.w.privSet List.mem_cons_self, upd_same, (k.ra.append (.cons r .nil)).monoG gw, k.gr.trans gw⟩
end
theorem lc_head {K : PySem.W.Frag} {γ δ α : Type} {R2 : Ix → Hp → γ → δ → Prop} {J : It} {src : Src} {gv : Gv} {t : Ro → M Bool} {ρ0 : Ro} {σ0 : L2.St} {vs ix : List Nat} {ι1 ιb : Ix} {H1 Hb : Hp} {P : Addr} {Q : δ → Hp → Prop} {kk : Bool → Ro → M α} {c : α → M γ} {rd : M D}
    (s0 : SrcOk K ιb Hb J src) (en : EnvOk K ιb Hb ρ0 σ0) (hix : ∀ i ∈ ix, i ∈ vs)
    (i : Nat) (ιc : Ix) (H : Hp) (S : Store) (av : List V) (acc : List D) (hrd : src.rd[i]? = some rd) (mk : Mk K ι1 H1 ιb Hb P ιc H S av acc)
    (f : Fin K R2 ι1 H1 Q ((rd.bind fun d => (tgM gv d ρ0).bind fun ρ1 => (t ρ1).bind fun b => kk b ρ1).bind c S)) :
    J.go i H ∧ ∀ x H', J.yld i H x H' → tN K ix gv x σ0 H' fun σ2 H2 => wipe σ2 vs = wipe σ0 vs ∧ tT K t σ2 H2 fun b H3 => ∃ ρ1 κ S3, Mk K ι1 H1 ιb Hb P κ H3 S3 av acc ∧ EnvOk K (κ.priv P) H3 ρ1 σ2 ∧ Fin K R2 ι1 H1 Q ((kk b ρ1).bind c S3) := by
  rw [M.assoc] at f
  have f0 : ∃ d S1, rd S = .ok d S1 ∧ Fin K R2 ι1 H1 Q (M.bind (M.bind (tgM gv d ρ0) fun ρ1 => (t ρ1).bind fun b => kk b ρ1) c S1) := by
    unfold M.bind at f
    cases q : rd S with
    | ok d S1 => rw [q] at f; exact ⟨d, S1, rfl, f⟩
    | exc _ _ _ => rw [q] at f; exact f.elim
    | bad => rw [q] at f; exact f.elim
  obtain ⟨d, S1, hd, f1⟩ := f0
  obtain ⟨hS, hgo, hy⟩ := s0.go i rd hrd _ _ _ _ _ mk.gr mk.w hd
  subst hS
  refine ⟨hgo, fun x H' y => ?_⟩
  obtain ⟨e2, w2, r2⟩ := hy x H' y
  rw [M.assoc] at f1
  refine ⟨d, ρ0, S1, _, w2, (en.monoG mk.gr).mono e2, r2, ?_⟩
  cases hg : gv d ρ0 with
  | none =>
    unfold M.bind tgM at f1
    rw [hg] at f1
    exact f1.elim
  | some ρ1 =>
    have f2 : Fin K R2 ι1 H1 Q (M.bind ((t ρ1).bind fun b => kk b ρ1) c S1) := by
      unfold M.bind tgM at f1
      rw [hg] at f1
      exact f1
    intro σ2 en2 hw2
    refine ⟨hw2 vs hix, ρ1, S1, _, w2, en2, ?_⟩
    rw [M.assoc] at f2
    refine Fin.step f2 fun b S3 ι3 H3 b' eb e3 w3 r3 f3 => ?_
    cases (show b = b' from r3)
    obtain ⟨κ, hk, mk3⟩ := mk.step (e2.trans e3) w3
    subst hk
    exact ⟨ρ1, κ, S3, mk3, en2.mono e3, f3⟩
theorem lc_end {K : PySem.W.Frag} {γ δ α : Type} {R2 : Ix → Hp → γ → δ → Prop} {J : It} {src : Src} {ι1 ιb : Ix} {H1 Hb : Hp} {P : Addr} {Q : δ → Hp → Prop} {a : α} {c : α → M γ}
    (s0 : SrcOk K ιb Hb J src) (ιc : Ix) (H : Hp) (S : Store) (av : List V) (acc : List D) (mk : Mk K ι1 H1 ιb Hb P ιc H S av acc)
    (f : Fin K R2 ι1 H1 Q ((src.fin.bind fun _ => M.ok a).bind c S)) : J.stop src.rd.length H ∧ Fin K R2 ι1 H1 Q (c a S) := by
  rw [M.assoc] at f
  unfold M.bind at f
  cases q : src.fin S with
  | ok u S1 =>
    rw [q] at f
    obtain ⟨hS, hst⟩ := s0.stop _ _ _ _ mk.gr mk.w q
    subst hS
    exact ⟨hst, f⟩
  | exc _ _ _ => rw [q] at f; exact f.elim
  | bad => rw [q] at f; exact f.elim
/-- the turn of the last clause -/
theorem lc_turn {K : PySem.W.Frag} {J : It} {src : Src} {gv : Gv} {t : Ro → M Bool} {e : Ro → M D} {ρ0 : Ro} {σ0 : L2.St} {vs ix : List Nat} {ι1 ιb : Ix} {H1 Hb : Hp} {P : Addr} {Q : VK} {cont : List D → M D}
    (hp : H1 P = none) (s0 : SrcOk K ιb Hb J src) (en : EnvOk K ιb Hb ρ0 σ0) (hix : ∀ i ∈ ix, i ∈ vs)
    (i : Nat) (ιc : Ix) (H : Hp) (S : Store) (av : List V) (acc : List D) (hi : i ≤ src.rd.length) (mk : Mk K ι1 H1 ιb Hb P ιc H S av acc)
    (f : Fin K (RelD K) ι1 H1 Q ((lc1 src.fin gv t e ρ0 (src.rd.drop i)).bind (fun ys => cont (acc ++ ys)) S))
    (hlen : ∀ ys S, Fin K (RelD K) ι1 H1 Q (cont ys S) → ys.length ≤ 16777216) :
    (J.stop i H ∧ i = src.rd.length ∧ Fin K (RelD K) ι1 H1 Q (cont acc S)) ∨
    (J.go i H ∧ i < src.rd.length ∧ ∀ x H', J.yld i H x H' → tN K ix gv x σ0 H' fun σ2 H2 => wipe σ2 vs = wipe σ0 vs ∧ tT K t σ2 H2 fun b H3 => if b = true then tE K e σ2 H3 fun y H4 =>
        ∃ acc', H4 P = some (.lst acc') ∧ acc'.length < sizeLine ∧ ∃ ιd S' av' ac', Mk K ι1 H1 ιb Hb P ιd (upd H4 P (.lst (acc' ++ [y]))) S' av' ac' ∧
          Fin K (RelD K) ι1 H1 Q ((lc1 src.fin gv t e ρ0 (src.rd.drop (i + 1))).bind (fun ys => cont (ac' ++ ys)) S')
      else ∃ ιd S' av' ac', Mk K ι1 H1 ιb Hb P ιd H3 S' av' ac' ∧ Fin K (RelD K) ι1 H1 Q ((lc1 src.fin gv t e ρ0 (src.rd.drop (i + 1))).bind (fun ys => cont (ac' ++ ys)) S')) := by
  by_cases hlt : i < src.rd.length
  · refine .inr ?_
    rw [List.drop_eq_getElem_cons hlt] at f
    unfold lc1 at f
    have hrd : src.rd[i]? = some src.rd[i] := List.getElem?_eq_getElem hlt
    generalize src.rd[i] = rd at f hrd
    generalize hr : src.rd.drop (i + 1) = rest at f ⊢
    obtain ⟨go, hd⟩ := lc_head (kk := fun b ρ1 => if b then (e ρ1).bind fun y => (lc1 src.fin gv t e ρ0 rest).bind fun ys => M.ok (y :: ys) else lc1 src.fin gv t e ρ0 rest) s0 en hix i ιc H S av acc hrd mk f
    refine ⟨go, hlt, fun x H' y => ?_⟩
    obtain ⟨d, ρ, S1, ι', w', en', r', hm⟩ := hd x H' y
    refine ⟨d, ρ, S1, ι', w', en', r', ?_⟩
    cases hg : gv d ρ with
    | none => rw [hg] at hm; exact hm
    | some ρ1 =>
      rw [hg] at hm
      intro σ2 en2 hw2
      obtain ⟨hw, ρ2, S2, ι2, w2, e2, f2⟩ := hm σ2 en2 hw2
      refine ⟨hw, ρ2, S2, ι2, w2, e2, f2.imp fun b H3 ⟨ρ3, κ, S3, mk3, en3, f3⟩ => ?_⟩
      cases b with
      | false => exact ⟨κ, S3, av, acc, mk3, f3⟩
      | true =>
        have f3 : Fin K (RelD K) ι1 H1 Q (M.bind ((e ρ3).bind fun y => (lc1 src.fin gv t e ρ0 rest).bind fun ys => M.ok (y :: ys)) (fun ys => cont (acc ++ ys)) S3) := f3
        rw [M.assoc] at f3
        refine ⟨ρ3, S3, _, mk3.w, en3, Fin.step f3 fun y S4 ι4 H4 vy ey e4 w4 r4 f4 => ?_⟩
        obtain ⟨κ4, hk4, mk4⟩ := mk3.step e4 w4
        subst hk4
        rw [M.assoc] at f4
        have f5 : Fin K (RelD K) ι1 H1 Q ((lc1 src.fin gv t e ρ0 rest).bind (fun ys => cont ((acc ++ [y]) ++ ys)) S4) := by
          have z : (fun ys => M.bind (M.ok (y :: ys)) fun ys => cont (acc ++ ys)) = fun ys => cont ((acc ++ [y]) ++ ys) := by
            funext ys
            rw [M.bind_ok, List.append_assoc]; rfl
          rw [z] at f4
          exact f4
        have hlen' : (acc ++ [y]).length ≤ 16777216 := by
          have f6 := f5
          unfold M.bind at f6
          cases q : lc1 src.fin gv t e ρ0 rest S4 with
          | ok ys S6 =>
            rw [q] at f6
            have := hlen _ _ f6
            rw [List.length_append] at this; omega
          | exc _ _ _ => rw [q] at f6; exact f6.elim
          | bad => rw [q] at f6; exact f6.elim
        have hl : av.length = acc.length := mk4.ra.length
        refine ⟨av, mk4.at', ?_, κ4, S4, av ++ [vy], acc ++ [y], mk4.app hp r4, f5⟩
        rw [List.length_append, List.length_singleton] at hlen'
        rw [hl, sizeLine_eq]; omega
  · have hi' : i = src.rd.length := by omega
    subst hi'
    rw [List.drop_length] at f
    unfold lc1 at f
    obtain ⟨st, f⟩ := lc_end s0 ιc H S av acc mk f
    rw [List.append_nil] at f
    exact .inl ⟨st, rfl, f⟩
/-- the block -/
def Lx.blk (L : Lx) (scope : Scope) : Lx := ⟨L.I, L.N, relS scope L.sc, fun x => scope.names.lookup x == some .cell⟩
theorem FnIn.blk {X : Cx} {k : Nat} {x : Str} {ps : List Str} {kw : List (Nat × List Str)} {φ : List D → M D} {s : Shared} {H : Hp} {scope : Scope} {cenv : Env} {fp : List Addr} (h : FnIn X k x ps kw φ) : FnIn (X.blk s H scope cenv fp) k x ps kw φ := ⟨h.ex⟩
theorem Gd.blk {L : Lx} {Φ : Ph} {X : Cx} (g : Gd L Φ X) (scope : Scope) (s : Shared) (H : Hp) (C : Addr) (cl : List (Str × Addr)) (fp : List Addr) : Gd (L.blk scope) Φ (X.blk s H scope (compEnvC scope cl C X.env) fp) where
  N := g.N
  sc := by
    show relS scope X.env.scope = relS scope L.sc
    rw [g.sc]
  fn := fun x => rfl
  nd := g.nd
  calm := g.calm
  fns := let ⟨k, r, h⟩ := g.fns; ⟨k, r, fun i x ps e => (h i x ps e).blk⟩
  fre := g.fre
  nums := g.nums
  typ := g.typ
  po := PassesOwn.never
def lcCore (m : Bool) {sv : Sv} {gv : Gv} {tv : Tv} {ev : Ev} (src : CI sv) (tg : CN gv) (ts : CTs tv) (el : CE ev) (scope : Scope) (own : List (Str × Nat)) (L : Lx) : Bool :=
  (src.chk L && (!src.pr || tg.tu)) && (blkC L.N L.sc scope own && (decide (∀ i ∈ tg.ix, i ∈ own.map (·.2)) && (tg.chk (L.blk scope) && (ts.chk (L.blk scope) && el.chk (L.blk scope)))))
theorem lcF_len {K : PySem.W.Frag} {ι1 : Ix} {H1 : Hp} {Q : VK} {m : Bool} : ∀ ys S, Fin K (RelD K) ι1 H1 Q (lcF m ys S) → ys.length ≤ 16777216 := fun ys S h => by
  unfold lcF at h
  split at h
  · assumption
  · exact h.elim
theorem Mk.start {K : PySem.W.Frag} {ι : Ix} {H : Hp} {S : Store} {P : Addr} (w : World K ι H S) (hp : H P = none) : Mk K ι H ι H P ι (upd H P (.lst [])) S [] [] :=
  ⟨(Ext.refl _ _).updNew hp, w.priv hp, upd_same, .nil, ((Ext.refl _ _).updNew hp).toPriv hp⟩
theorem Mk.done {K : PySem.W.Frag} {ι1 ιb ιc : Ix} {H1 Hb H : Hp} {P : Addr} {S : Store} {av : List V} {acc : List D} {Q : VK} {m : Bool} (mk : Mk K ι1 H1 ιb Hb P ιc H S av acc) (hp : H1 P = none) (w0 : ∀ a ∈ ι1.pv, ∃ xs, H1 a = some (.lst xs)) (f : Fin K (RelD K) ι1 H1 Q (lcF m acc S)) : Q (.ref P) H := by
  have hl := lcF_len _ _ f
  unfold lcF at f
  rw [if_pos hl] at f
  exact f.lcDone mk.ex hp w0 mk.w mk.at' mk.ra (by rw [mk.ra.length, sizeLine_eq]; exact hl)
theorem lc_weak {K : PySem.W.Frag} {m : Bool} {sv : Ro → M Src} {gv : Gv} {tv : Ro → M Bool} {ev : Ro → M D} {vs ix : List Nat} (hix : ∀ i ∈ ix, i ∈ vs) : ∀ σ H Q, tE K (fun ρ => (sv ρ).bind fun s => (lc1 s.fin gv tv ev (wipeR ρ vs) s.rd).bind (lcF m)) σ H Q → tLc (tI K sv) (tN K ix gv) (tT K tv) (tE K ev) vs σ H Q := by
  intro σ H Q ⟨ρ, S, ι, w, en, f⟩
  refine ⟨ρ, S, ι, w, en, Fin.bind f fun src S1 ι1 H1 J e1 w1 s1 f1 => ?_⟩
  intro P hP
  have ww : wipe (wipe σ vs) vs = wipe σ vs := wipe_wipe fun i hi => hi
  refine ⟨fun i n H => n = src.rd.length - i ∧ i ≤ src.rd.length ∧ ∃ ιc S av acc, Mk K ι1 H1 ι1 H1 P ιc H S av acc ∧
      Fin K (RelD K) ι1 H1 Q ((lc1 src.fin gv tv ev (wipeR ρ vs) (src.rd.drop i)).bind (fun ys => lcF m (acc ++ ys)) S), ⟨_, rfl, Nat.zero_le _, ι1, S1, [], [], .start w1 hP, f1⟩, ?_⟩
  rintro i n H3 ⟨rfl, hi, ιc, S3, av, acc, mk, f3⟩
  rcases lc_turn (ix := ix) (vs := vs) hP s1 ((en.mono e1).wipe vs) hix i ιc H3 S3 av acc hi mk f3 lcF_len with ⟨st, he, f4⟩ | ⟨go, hlt, step⟩
  · exact .inl ⟨st, mk.done hP w1.prv f4⟩
  · refine .inr ⟨go, fun H' => ∃ ιc S av acc, Mk K ι1 H1 ι1 H1 P ιc H' S av acc ∧
      Fin K (RelD K) ι1 H1 Q ((lc1 src.fin gv tv ev (wipeR ρ vs) (src.rd.drop (i + 1))).bind (fun ys => lcF m (acc ++ ys)) S), fun H' q => ⟨_, by omega, rfl, hlt, q⟩, fun x H' y => ?_⟩
    have z := step x H' y
    rw [ww] at z
    exact z
def cLc (m : Bool) {sv : Sv} {gv : Gv} {tv : Tv} {ev : Ev} (src : CI sv) (tg : CN gv) (ts : CTs tv) (el : CE ev) (scope : Scope) (own : List (Str × Nat)) (p : Pos) : CE (eLc m sv gv tv ev (own.map (·.2))) where
  py := .ListComp el.py [⟨tg.py, src.py, ts.py, 0⟩] scope p
  chk := lcCore m src tg ts el scope own
  pl := rfl
  ok := fun L Φ X g q => by
    obtain ⟨qa, qb⟩ := ba q
    obtain ⟨q1, q2⟩ := ba qa
    obtain ⟨q3, qc⟩ := ba qb
    obtain ⟨q4, qd⟩ := ba qc
    obtain ⟨q5, qe⟩ := ba qd
    obtain ⟨q6, q7⟩ := ba qe
    have hpr : src.pr = true → isTup tg.py = true := fun h => by
      rw [← tg.tuOk]
      rw [h] at q2
      simpa using q2
    refine PE.weak (pe_lc g.calm g.nd (src.ok L Φ X g q1 tg.py hpr) (blkOk_by (by rw [g.N, g.sc]; exact q3)) (fun s H C cl fp => tg.ok _ Φ _ (g.blk scope s H C cl fp) q5) (fun s H C cl fp => ts.ok _ Φ _ (g.blk scope s H C cl fp) q6)
      (fun s H C cl fp => el.ok _ Φ _ (g.blk scope s H C cl fp) q7) (folded_pl src.pl _)) (lc_weak (of_decide_eq_true q4))

/-! ### two clauses -/
def lc2 (fin : M Unit) (gv : Gv) (t : Ro → M Bool) (sv1 : Ro → M Src) (vs1 : List Nat) (gv1 : Gv) (t1 : Ro → M Bool) (e : Ro → M D) (ρ : Ro) : List (M D) → M (List D)
  | [] => fin.bind fun _ => M.ok []
  | rd :: r => rd.bind fun d => (tgM gv d ρ).bind fun ρ1 => (t ρ1).bind fun b => if b then (sv1 ρ1).bind fun s1 => (lc1 s1.fin gv1 t1 e (wipeR ρ1 vs1) s1.rd).bind fun ys => (lc2 fin gv t sv1 vs1 gv1 t1 e ρ r).bind fun zs => M.ok (ys ++ zs)
      else lc2 fin gv t sv1 vs1 gv1 t1 e ρ r
def eLc2 (m : Bool) (sv : Sv) (gv : Gv) (tv : Tv) (sv1 : Sv) (vs1 : List Nat) (gv1 : Gv) (tv1 : Tv) (ev : Ev) (vs : List Nat) : Ev := fun Φ ρ => (sv Φ ρ).bind fun s => (lc2 s.fin gv (tv Φ) (sv1 Φ) vs1 gv1 (tv1 Φ) (ev Φ) (wipeR ρ vs) s.rd).bind (lcF m)
theorem lc2_weak {K : PySem.W.Frag} {m : Bool} {sv sv1 : Ro → M Src} {gv gv1 : Gv} {tv tv1 : Ro → M Bool} {ev : Ro → M D} {vs ix vs1 ix1 : List Nat} (hix : ∀ i ∈ ix, i ∈ vs) (hix1 : ∀ i ∈ ix1, i ∈ vs1) :
    ∀ σ H Q, tE K (fun ρ => (sv ρ).bind fun s => (lc2 s.fin gv tv sv1 vs1 gv1 tv1 ev (wipeR ρ vs) s.rd).bind (lcF m)) σ H Q → tLc2 (tI K sv) (tN K ix gv) (tT K tv) (tI K sv1) (tN K ix1 gv1) (tT K tv1) (tE K ev) vs vs1 σ H Q := by
  intro σ H Q ⟨ρ, S, ι, w, en, f⟩
  refine ⟨ρ, S, ι, w, en, Fin.bind f fun src S1 ι1 H1 J e1 w1 s1 f1 => ?_⟩
  intro P hP
  have ww : wipe (wipe σ vs) vs = wipe σ vs := wipe_wipe fun i hi => hi
  have en1 := (en.mono e1).wipe vs
  refine ⟨fun i n H => n = src.rd.length - i ∧ i ≤ src.rd.length ∧ ∃ ιc S av acc, Mk K ι1 H1 ι1 H1 P ιc H S av acc ∧
      Fin K (RelD K) ι1 H1 Q ((lc2 src.fin gv tv sv1 vs1 gv1 tv1 ev (wipeR ρ vs) (src.rd.drop i)).bind (fun ys => lcF m (acc ++ ys)) S), ⟨_, rfl, Nat.zero_le _, ι1, S1, [], [], .start w1 hP, f1⟩, ?_⟩
  rintro i n H3 ⟨rfl, hi, ιc, S3, av, acc, mk, f3⟩
  by_cases hlt : i < src.rd.length
  · rw [List.drop_eq_getElem_cons hlt] at f3
    unfold lc2 at f3
    have hrd : src.rd[i]? = some src.rd[i] := List.getElem?_eq_getElem hlt
    generalize src.rd[i] = rd at f3 hrd
    refine .inr ?_
    generalize hr : src.rd.drop (i + 1) = rest at f3
    obtain ⟨go, hd⟩ := lc_head (ix := ix) (vs := vs) (kk := fun b ρ1 => if b then (sv1 ρ1).bind fun s1 => (lc1 s1.fin gv1 tv1 ev (wipeR ρ1 vs1) s1.rd).bind fun ys => (lc2 src.fin gv tv sv1 vs1 gv1 tv1 ev (wipeR ρ vs) rest).bind fun zs => M.ok (ys ++ zs)
      else lc2 src.fin gv tv sv1 vs1 gv1 tv1 ev (wipeR ρ vs) rest) s1 en1 hix i ιc H3 S3 av acc hrd mk f3
    refine ⟨go, fun H' => ∃ ιc S av acc, Mk K ι1 H1 ι1 H1 P ιc H' S av acc ∧
      Fin K (RelD K) ι1 H1 Q ((lc2 src.fin gv tv sv1 vs1 gv1 tv1 ev (wipeR ρ vs) rest).bind (fun ys => lcF m (acc ++ ys)) S), fun H' q => ⟨_, (by omega : src.rd.length - (i + 1) < src.rd.length - i), rfl, hlt, by rw [hr]; exact q⟩, fun x H' y => ?_⟩
    obtain ⟨d, ρa, S1, ι', w', en', r', hm⟩ := hd x H' y
    refine ⟨d, ρa, S1, ι', w', en', r', ?_⟩
    cases hg : gv d ρa with
    | none => rw [hg] at hm; exact hm
    | some ρ1 =>
      rw [hg] at hm
      intro σ2 en2 hw2
      obtain ⟨hw, ρ2, S2, ι2, w2, e2, f2⟩ := hm σ2 en2 hw2
      refine ⟨by rw [ww] at hw; exact hw, ρ2, S2, ι2, w2, e2, f2.imp fun b H5 ⟨ρ3, κ, S5, mk5, en5, f5⟩ => ?_⟩
      cases b with
      | false => exact ⟨κ, S5, av, acc, mk5, f5⟩
      | true =>
        have f5 : Fin K (RelD K) ι1 H1 Q (M.bind ((sv1 ρ3).bind fun s1 => (lc1 s1.fin gv1 tv1 ev (wipeR ρ3 vs1) s1.rd).bind fun ys => (lc2 src.fin gv tv sv1 vs1 gv1 tv1 ev (wipeR ρ vs) rest).bind fun zs => M.ok (ys ++ zs)) (fun ys => lcF m (acc ++ ys)) S5) := f5
        rw [M.assoc] at f5
        refine ⟨ρ3, S5, _, mk5.w, en5, Fin.step f5 fun sr S6 ι6 H6 J1 ey e6 w6 r6 f6 => ?_⟩
        obtain ⟨κ6, hk6, mk6⟩ := mk5.step e6 w6
        subst hk6
        have s6 : SrcOk K (κ6.priv P) H6 J1 sr := r6
        have f7 : Fin K (RelD K) ι1 H1 Q ((lc1 sr.fin gv1 tv1 ev (wipeR ρ3 vs1) sr.rd).bind (fun ys => (fun A => (lc2 src.fin gv tv sv1 vs1 gv1 tv1 ev (wipeR ρ vs) rest).bind fun zs => lcF m (A ++ zs)) (acc ++ ys)) S6) := by
          have z : (M.bind (M.bind (lc1 sr.fin gv1 tv1 ev (wipeR ρ3 vs1) sr.rd) fun ys => (lc2 src.fin gv tv sv1 vs1 gv1 tv1 ev (wipeR ρ vs) rest).bind fun zs => M.ok (ys ++ zs)) fun ys => lcF m (acc ++ ys)) =
              (lc1 sr.fin gv1 tv1 ev (wipeR ρ3 vs1) sr.rd).bind (fun ys => (fun A => (lc2 src.fin gv tv sv1 vs1 gv1 tv1 ev (wipeR ρ vs) rest).bind fun zs => lcF m (A ++ zs)) (acc ++ ys)) := by
            rw [M.assoc]
            congr 1
            funext ys
            rw [M.assoc]
            congr 1
            funext zs
            rw [M.bind_ok, List.append_assoc]
          rw [← z]; exact f6
        have hlen7 : ∀ ys S, Fin K (RelD K) ι1 H1 Q ((fun A => (lc2 src.fin gv tv sv1 vs1 gv1 tv1 ev (wipeR ρ vs) rest).bind fun zs => lcF m (A ++ zs)) ys S) → ys.length ≤ 16777216 := fun ys S h => by
          have h : Fin K (RelD K) ι1 H1 Q (((lc2 src.fin gv tv sv1 vs1 gv1 tv1 ev (wipeR ρ vs) rest).bind fun zs => lcF m (ys ++ zs)) S) := h
          unfold M.bind at h
          cases q : lc2 src.fin gv tv sv1 vs1 gv1 tv1 ev (wipeR ρ vs) rest S with
          | ok zs S8 =>
            rw [q] at h
            have := lcF_len _ _ h
            rw [List.length_append] at this; omega
          | exc _ _ _ => rw [q] at h; exact h.elim
          | bad => rw [q] at h; exact h.elim
        have en6 := (en5.mono e6).wipe vs1
        have mk6' : Mk K ι1 H1 (κ6.priv P) H6 P κ6 H6 S6 av acc := ⟨mk6.ex, mk6.w, mk6.at', mk6.ra, .refl _ _⟩
        refine ⟨fun j n H => n = sr.rd.length - j ∧ j ≤ sr.rd.length ∧ ∃ ιc S av acc, Mk K ι1 H1 (κ6.priv P) H6 P ιc H S av acc ∧
          Fin K (RelD K) ι1 H1 Q ((lc1 sr.fin gv1 tv1 ev (wipeR ρ3 vs1) (sr.rd.drop j)).bind (fun ys => (fun A => (lc2 src.fin gv tv sv1 vs1 gv1 tv1 ev (wipeR ρ vs) rest).bind fun zs => lcF m (A ++ zs)) (acc ++ ys)) S), ⟨_, rfl, Nat.zero_le _, κ6, S6, av, acc, mk6', f7⟩, ?_⟩
        rintro j n H8 ⟨rfl, hj, ι8, S8, av8, acc8, mk8, f8⟩
        have ww1 : wipe (wipe σ2 vs1) vs1 = wipe σ2 vs1 := wipe_wipe fun i hi => hi
        rcases lc_turn (ix := ix1) (vs := vs1) hP s6 en6 hix1 j ι8 H8 S8 av8 acc8 hj mk8 f8 hlen7 with ⟨st, he, f9⟩ | ⟨go, hlt', step⟩
        · exact .inl ⟨st, ι8, S8, av8, acc8, ⟨mk8.ex, mk8.w, mk8.at', mk8.ra, mk8.ex.toPriv hP⟩, f9⟩
        · refine .inr ⟨go, fun H' => ∃ ιc S av acc, Mk K ι1 H1 (κ6.priv P) H6 P ιc H' S av acc ∧
            Fin K (RelD K) ι1 H1 Q ((lc1 sr.fin gv1 tv1 ev (wipeR ρ3 vs1) (sr.rd.drop (j + 1))).bind (fun ys => (fun A => (lc2 src.fin gv tv sv1 vs1 gv1 tv1 ev (wipeR ρ vs) rest).bind fun zs => lcF m (A ++ zs)) (acc ++ ys)) S),
            fun H' q => ⟨_, (by omega : sr.rd.length - (j + 1) < sr.rd.length - j), rfl, hlt', q⟩, fun x H' y => ?_⟩
          have z := step x H' y
          rw [ww1] at z
          exact z
  · have hi' : i = src.rd.length := by omega
    subst hi'
    rw [List.drop_length] at f3
    unfold lc2 at f3
    obtain ⟨st, f4⟩ := lc_end s1 ιc H3 S3 av acc mk f3
    rw [List.append_nil] at f4
    exact .inl ⟨st, mk.done hP w1.prv f4⟩
def lc2Core {sv sv1 : Sv} {gv gv1 : Gv} {tv tv1 : Tv} {ev : Ev} (src : CI sv) (tg : CN gv) (ts : CTs tv) (src1 : CI sv1) (vs1 : List Nat) (tg1 : CN gv1) (ts1 : CTs tv1) (el : CE ev) (scope : Scope) (own : List (Str × Nat)) (L : Lx) : Bool :=
  (src.chk L && (!src.pr || tg.tu)) && (blkC L.N L.sc scope own && (decide (∀ i ∈ tg.ix, i ∈ own.map (·.2)) && (tg.chk (L.blk scope) && (ts.chk (L.blk scope) && (el.chk (L.blk scope) &&
    (decide (∀ i ∈ vs1, i ∈ own.map (·.2)) && (src1.chk (L.blk scope) && ((!src1.pr || tg1.tu) && (decide (∀ i ∈ tg1.ix, i ∈ vs1) && (tg1.chk (L.blk scope) && ts1.chk (L.blk scope)))))))))))
def cLc2 (m : Bool) {sv sv1 : Sv} {gv gv1 : Gv} {tv tv1 : Tv} {ev : Ev} (src : CI sv) (tg : CN gv) (ts : CTs tv) (src1 : CI sv1) (vs1 : List Nat) (tg1 : CN gv1) (ts1 : CTs tv1) (el : CE ev) (scope : Scope) (own : List (Str × Nat)) (p : Pos) : CE (eLc2 m sv gv tv sv1 vs1 gv1 tv1 ev (own.map (·.2))) where
  py := .ListComp el.py [⟨tg.py, src.py, ts.py, 0⟩, ⟨tg1.py, src1.py, ts1.py, 0⟩] scope p
  chk := lc2Core src tg ts src1 vs1 tg1 ts1 el scope own
  pl := rfl
  ok := fun L Φ X g q => by
    obtain ⟨qa, qb⟩ := ba q
    obtain ⟨q1, q2⟩ := ba qa
    obtain ⟨q3, qc⟩ := ba qb
    obtain ⟨q4, qd⟩ := ba qc
    obtain ⟨q5, qe⟩ := ba qd
    obtain ⟨q6, qf⟩ := ba qe
    obtain ⟨q7, qg⟩ := ba qf
    obtain ⟨q8, qh⟩ := ba qg
    obtain ⟨q9, qi⟩ := ba qh
    obtain ⟨q10, qj⟩ := ba qi
    obtain ⟨q11, qk⟩ := ba qj
    obtain ⟨q12, q13⟩ := ba qk
    have hpr : src.pr = true → isTup tg.py = true := fun h => by
      rw [← tg.tuOk]
      rw [h] at q2
      simpa using q2
    have hpr1 : src1.pr = true → isTup tg1.py = true := fun h => by
      rw [← tg1.tuOk]
      rw [h] at q10
      simpa using q10
    refine PE.weak (pe_lc2 (vs1 := vs1) g.calm g.nd (src.ok L Φ X g q1 tg.py hpr) (blkOk_by (by rw [g.N, g.sc]; exact q3)) (of_decide_eq_true q8) (fun s H C cl fp => tg.ok _ Φ _ (g.blk scope s H C cl fp) q5) (fun s H C cl fp => ts.ok _ Φ _ (g.blk scope s H C cl fp) q6)
      (fun s H C cl fp => src1.ok _ Φ _ (g.blk scope s H C cl fp) q9 tg1.py hpr1) (fun s H C cl fp => tg1.ok _ Φ _ (g.blk scope s H C cl fp) q12) (fun s H C cl fp => ts1.ok _ Φ _ (g.blk scope s H C cl fp) q13)
      (fun s H C cl fp => el.ok _ Φ _ (g.blk scope s H C cl fp) q7) (folded_pl src.pl _) (fun env x => folded_pl src1.pl env x)) (lc2_weak (of_decide_eq_true q4) (of_decide_eq_true q11))
end G
end

section
set_option Elab.async false
set_option linter.all false
set_option maxRecDepth 100000
namespace G
open PySem PySem.Spec PyProof.Rows L2

/-! ### general targets -/
def EnvR (K : PySem.W.Frag) (ι : Ix) (H : Hp) (ρ : Ro) (σ : L2.St) : Prop := EnvOk K ι H ρ σ
abbrev Gm := Ph → D → Ro → M Ro
abbrev Gms := Ph → List D → Ro → M Ro
def tGG (K : PySem.W.Frag) (gv : D → Ro → M Ro) : TG := fun v σ H Q => ∃ (d : D) (ρ : Ro) (S : Store) (ι : Ix), World K ι H S ∧ EnvOk K ι H ρ σ ∧ RelD K ι H d v ∧ Fin K (EnvR K) ι H Q (gv d ρ S)
def tGGs (K : PySem.W.Frag) (gv : List D → Ro → M Ro) : TGs := fun vs σ H Q => ∃ (ds : List D) (ρ : Ro) (S : Store) (ι : Ix), World K ι H S ∧ EnvOk K ι H ρ σ ∧ RelDs K ι H ds vs ∧ Fin K (EnvR K) ι H Q (gv ds ρ S)
theorem PGs.weak {X : Cx} {e : List Expr} {t t' : TGs} (h : PGs X e t) (w : ∀ v σ H Q, t' v σ H Q → t v σ H Q) : PGs X e t' := ⟨fun pins s σ H v u Q I r q => h.run pins s σ H v u Q I r (w _ _ _ _ q)⟩
structure CG (gm : Gm) where
  py : Expr
  chk : Lx → Bool
  asg : ∀ (es : List Expr) (env : Env), assignEach (py :: es) env = (false, assign py env) :: assignEach es env
  /-- neither a name nor a tuple -/
  pln : Bool
  tu : Bool
  tuOk : tu = isTup py
  plnOk : pln = true → (∀ x p, py ≠ .Name x p) ∧ (∀ es k p, py ≠ .Tuple es k p) ∧ (∀ es p, py ≠ .List es p)
  ok : ∀ (L : Lx) (Φ : Ph) (X : Cx), Gd L Φ X → chk L = true → PG X py (tGG X.K (gm Φ))
def gmN (gv : Gv) : Gm := fun _ d ρ => tgM gv d ρ
theorem tgM_fin {K : PySem.W.Frag} {ι : Ix} {H : Hp} {S : Store} {Q : L2.St → Hp → Prop} {gv : Gv} {d : D} {ρ : Ro} {ix : List Nat} {σ : L2.St} (w : World K ι H S) (f : Fin K (EnvR K) ι H Q (tgM gv d ρ S)) :
    match gv d ρ with
    | some ρ' => ∀ σ', EnvOk K ι H ρ' σ' → (∀ vs, (∀ i ∈ ix, i ∈ vs) → wipe σ' vs = wipe σ vs) → Q σ' H
    | none => False := by
  unfold tgM at f
  cases h : gv d ρ with
  | none => rw [h] at f; exact f.elim
  | some ρ' => rw [h] at f; exact fun σ' e _ => f.now w e
def cgName (i : Nat) (x : Str) (p : Pos) : CG (gmN (gNm i)) where
  py := .Name x p
  chk := (cnName i x p).chk
  asg := fun es env => rfl
  pln := false
  tu := false
  tuOk := rfl
  plnOk := fun h => by cases h
  ok := fun L Φ X g q => PG.weak ((cnName i x p).ok L Φ X g q) fun v σ H Q ⟨d, ρ, S, ι, w, e, r, f⟩ => ⟨d, ρ, S, ι, w, e, r, tgM_fin w f⟩
/-- o[i] = v : cells -/
def oSet (o i v : D) : M Unit := fun S => match o, i with
  | .ref n, .int k => match S[n]? with
    | some (.lst xs) => match ixN xs.length k with
      | some j => if D.bel n v then .ok () (S.set n (.lst (xs.set j v))) else .bad
      | none => .bad
    | _ => .bad
  | _, _ => .bad
def UnitR (_ : Ix) (_ : Hp) (_ : Unit) (_ : Unit) : Prop := True
def rSetD (K : PySem.W.Frag) : TSet := fun o i v H Q => ∃ (x y z : D) (S : Store) (ι : Ix), World K ι H S ∧ RelD K ι H x o ∧ RelD K ι H y i ∧ RelD K ι H z v ∧ Fin K UnitR ι H (fun _ H' => Q H') (oSet x y z S)
theorem D.bels_set {n : Nat} {xs : List D} {j : Nat} {v : D} (h : D.bels n xs = true) (hv : D.bel n v = true) : D.bels n (xs.set j v) = true :=
  D.bels_mem.mpr fun d hd => by
    rcases List.mem_or_eq_of_mem_set hd with z | z
    · exact D.bels_mem.mp h d z
    · rw [z]; exact hv
theorem PSet.imp {X : Cx} {t t' : TSet} (h : PSet X t) (q : ∀ o i v H Q, t' o i v H Q → t o i v H Q) : PSet X t' := fun pins s σ H o i v ov iv u Q I ro ri rv z => h pins s σ H o i v ov iv u Q I ro ri rv (q _ _ _ _ _ z)
theorem set_cell {X : Cx} : PSet X (rSetD X.K) := PSet.imp set_list fun o i v H Q ⟨x, y, z, S, ι, w, rx, ry, rz, f⟩ => by
  unfold oSet at f
  split at f
  · rename_i n k
    cases hs : S[n]? with
    | none => simp only [hs] at f; exact f.elim
    | some c =>
      cases c with
      | lst xs =>
        simp only [hs] at f
        cases hk : ixN xs.length k with
        | none => simp only [hk] at f; exact f.elim
        | some j =>
          simp only [hk] at f
          by_cases hb : D.bel n z = true
          · rw [if_pos hb] at f
            obtain ⟨a, h1, h2⟩ := relD_ref.mp rx
            obtain ⟨b, us, h3, h4, h5, h6⟩ := w.lstAt hs
            rw [h2] at h3; cases h3
            have E : Ext ι H ι (upd H a (.lst (us.set j v))) := .write w h2
            refine ⟨a, us, k, j, h1, relD_int.mp ry, h4, by rw [h6.length]; exact hk, f ι _ () E (w.write h2 ?_ ⟨us.set j v, upd_same, by rw [List.length_set]; exact h5, (h6.set rz j).mono E⟩) trivial⟩
            exact D.bels_set (w.bel n _ hs) hb
          · rw [if_neg hb] at f; exact f.elim
      | _ => simp only [hs] at f; exact f.elim
  · exact f.elim
def gmSub (o i : Ev) : Gm := fun Φ d ρ => (o Φ ρ).bind fun x => (i Φ ρ).bind fun y => (oSet x y d).bind fun _ => M.ok ρ
def cgSub {o i : Ev} (x : CE o) (y : CE i) (p : Pos) : CG (gmSub o i) where
  py := .Subscript x.py y.py p
  chk := fun L => x.chk L && y.chk L
  asg := fun es env => rfl
  pln := true
  tu := false
  tuOk := rfl
  plnOk := fun _ => ⟨fun _ _ h => (by cases h), fun _ _ _ h => (by cases h), fun _ _ h => (by cases h)⟩
  ok := fun L Φ X g q => by
    obtain ⟨q1, q2⟩ := ba q
    have hp := y.pl
    refine PG.weak (pg_sub (x.ok L Φ X g q1) (y.ok L Φ X g q2) set_cell (fun v => by
      generalize y.py = z at hp
      cases z <;> first | rfl | cases hp)) fun v σ H Q ⟨d, ρ, S, ι, w, e, r, f⟩ => ?_
    refine ⟨ρ, S, ι, w, e, Fin.bind f fun x1 S1 ι1 H1 o1 e1 w1 r1 f1 => ⟨ρ, S1, ι1, w1, e.mono e1, Fin.bind f1 fun y1 S2 ι2 H2 i1 e2 w2 r2 f2 => ?_⟩⟩
    refine ⟨x1, y1, d, S2, ι2, w2, r1.mono e2, r2, r.mono (e1.trans e2), Fin.bind f2 fun _ S3 ι3 H3 _ e3 w3 _ f3 => ?_⟩
    exact f3.now w3 (e.mono (e1.trans (e2.trans e3)))
structure CGs (gms : Gms) where
  py : List Expr
  chk : Lx → Bool
  len : ∀ env, (assignEach py env).length = py.length
  st : ∀ env, (assignEach py env).findIdx? (·.1) = none
  dl : ∀ (Φ : Ph) (ds : List D) (ρ : Ro) (S : Store) (ρ' : Ro) (S' : Store), gms Φ ds ρ S = .ok ρ' S' → ds.length = py.length
  ok : ∀ (L : Lx) (Φ : Ph) (X : Cx), Gd L Φ X → chk L = true → PGs X py (tGGs X.K (gms Φ))
def gsNil : Gms := fun _ ds ρ => match ds with
  | [] => M.ok ρ
  | _ => M.bad
def gsCons (g : Gm) (r : Gms) : Gms := fun Φ ds ρ => match ds with
  | d :: ds => (g Φ d ρ).bind fun ρ1 => r Φ ds ρ1
  | [] => M.bad
def cgsNil : CGs gsNil where
  py := []
  chk := fun _ => true
  len := fun _ => rfl
  st := fun _ => rfl
  dl := fun Φ ds ρ S ρ' S' h => by
    cases ds with
    | nil => rfl
    | cons d ds => cases h
  ok := fun L Φ X g q => PGs.weak pgs_nil fun vs σ H Q ⟨ds, ρ, S, ι, w, e, r, f⟩ => by
    cases ds with
    | nil =>
      unfold RelDs at r
      exact ⟨r, f.now w e⟩
    | cons d ds => exact f.elim
def cgsCons {g : Gm} {r : Gms} (a : CG g) (b : CGs r) : CGs (gsCons g r) where
  py := a.py :: b.py
  chk := fun L => a.chk L && b.chk L
  len := fun env => by rw [a.asg, List.length_cons, List.length_cons, b.len]
  st := fun env => by rw [a.asg, List.findIdx?_cons, b.st]; rfl
  dl := fun Φ ds ρ S ρ' S' h => by
    cases ds with
    | nil => cases h
    | cons d ds =>
      obtain ⟨ρ1, S1, _, h⟩ := M.bind_inv (show ((g Φ d ρ).bind fun ρ1 => r Φ ds ρ1) S = .ok ρ' S' from h)
      rw [List.length_cons, List.length_cons, b.dl _ _ _ _ _ _ h]
  ok := fun L Φ X g' q => by
    obtain ⟨q1, q2⟩ := ba q
    refine PGs.weak (pgs_cons (a.ok L Φ X g' q1) (b.ok L Φ X g' q2) (by rw [a.asg, List.map_cons])) fun vs σ H Q ⟨ds, ρ, S, ι, w, e, rr, f⟩ => ?_
    cases ds with
    | nil => exact f.elim
    | cons d ds =>
      unfold RelDs at rr
      obtain ⟨v, vr, h1, h2, h3⟩ := rr
      exact ⟨v, vr, h1, d, ρ, S, ι, w, e, h2, Fin.bind (show Fin X.K (EnvR X.K) ι H Q (((g Φ d ρ).bind fun ρ1 => r Φ ds ρ1) S) from f) fun ρ1 S1 ι1 H1 σ1 e1 w1 r1 f1 => ⟨ds, ρ1, S1, ι1, w1, r1, h3.mono e1, f1⟩⟩
def gmTup (g : Gms) : Gm := fun Φ d ρ S => match d with
  | .tup xs => g Φ xs ρ S
  | .tpk xs => g Φ xs ρ S
  | d => match lstOf d S with
    | some xs => g Φ xs ρ S
    | none => .bad
theorem PG.or {X : Cx} {e : Expr} {t t' : TG} (h : PG X e t) (h' : PG X e t') : PG X e (fun v σ H Q => t v σ H Q ∨ t' v σ H Q) := ⟨fun pins s σ H v u Q I r q => q.elim (h.run pins s σ H v u Q I r) (h'.run pins s σ H v u Q I r)⟩
theorem Fin.ok_of {K : PySem.W.Frag} {ι : Ix} {H : Hp} {α β : Type} {Rel : Ix → Hp → α → β → Prop} {Q : β → Hp → Prop} {r : R α} (f : Fin K Rel ι H Q r) : ∃ a S, r = .ok a S := by
  cases r with
  | ok a S => exact ⟨a, S, rfl⟩
  | exc _ _ _ => exact f.elim
  | bad => exact f.elim
def cgTup {g : Gms} (a : CGs g) (k : Nat) (p : Pos) : CG (gmTup g) where
  py := .Tuple a.py k p
  chk := a.chk
  asg := fun es env => rfl
  pln := false
  tu := true
  tuOk := rfl
  plnOk := fun h => by cases h
  ok := fun L Φ X g' q => by
    refine PG.weak (PG.or (pg_tup (n := a.py.length) g'.calm (a.ok L Φ X g' q) (a.len _) (a.st _)) (pg_unl (n := a.py.length) g'.calm (a.ok L Φ X g' q) (a.len _) (a.st _))) fun v σ H Q ⟨d, ρ, S, ι, w, e, r, f⟩ => ?_
    have go : ∀ (xs : List D) (vs : List V), RelDs X.K ι H xs vs → Fin X.K (EnvR X.K) ι H Q (g Φ xs ρ S) → vs.length = a.py.length ∧ tGGs X.K (g Φ) vs σ H Q := fun xs vs rs f => by
      obtain ⟨ρ', S', h⟩ := f.ok_of
      exact ⟨by rw [rs.length, a.dl _ _ _ _ _ _ h], xs, ρ, S, ι, w, e, rs, f⟩
    have li : ∀ d, RelD X.K ι H d v → Fin X.K (EnvR X.K) ι H Q (match lstOf d S with | some xs => g Φ xs ρ S | none => .bad) → gUnl X.K a.py.length (tGGs X.K (g Φ)) v σ H Q := fun d r f => by
      cases hl : lstOf d S with
      | none => rw [hl] at f; exact f.elim
      | some xs =>
        rw [hl] at f
        obtain ⟨b, vs, h1, h2, h3, h4⟩ := lstOf_ok w r hl
        obtain ⟨k1, k2⟩ := go xs vs h4 f
        exact ⟨b, vs, h1, h2, k1, k2⟩
    unfold gmTup at f
    split at f
    · rename_i xs
      obtain ⟨b, vs, h1, h2, h3, h4⟩ := relD_tup.mp r
      obtain ⟨k1, k2⟩ := go xs vs h4 f
      exact .inl ⟨b, vs, h1, h2.sq, k1, k2⟩
    · rename_i xs
      obtain ⟨b, vs, h1, h2, h3, h4⟩ := relD_tpk.mp r
      obtain ⟨k1, k2⟩ := go xs vs h4 f
      exact .inl ⟨b, vs, h1, h2, k1, k2⟩
    · exact .inr (li d r f)

/-! ### statements -/
inductive Rs where
  | nx (ρ : Ro) (S : Store)
  | rt (d : D) (S : Store)
  | bk (ρ : Ro) (S : Store)
  | ct (ρ : Ro) (S : Store)
  | exc (c : Str) (fs : List D) (S : Store)
  | bad
abbrev Sm := Ph → Ro → Store → Rs
def M.to {α : Type} (m : M α) (k : α → Store → Rs) : Store → Rs := fun S => match m S with
  | .ok a S' => k a S'
  | .exc c fs S' => .exc c fs S'
  | .bad => .bad
section
variable {K : PySem.W.Frag} {ι ι' : Ix} {H H' : Hp} {S : Store} {E E' : Ends}
def Post (K : PySem.W.Frag) (E : Ends) (ι : Ix) (H : Hp) : Rs → Prop
  | .nx ρ S => ∀ ι' H' σ', Ext ι H ι' H' → World K ι' H' S → EnvOk K ι' H' ρ σ' → E.nx σ' H'
  | .bk ρ S => ∀ ι' H' σ', Ext ι H ι' H' → World K ι' H' S → EnvOk K ι' H' ρ σ' → E.bk σ' H'
  | .ct ρ S => ∀ ι' H' σ', Ext ι H ι' H' → World K ι' H' S → EnvOk K ι' H' ρ σ' → E.ct σ' H'
  | .rt d S => ∀ ι' H' v, Ext ι H ι' H' → World K ι' H' S → RelD K ι' H' d v → E.rt v H'
  | _ => False
theorem Post.mono (e : Ext ι H ι' H') : ∀ {r : Rs}, Post K E ι H r → Post K E ι' H' r
  | .nx _ _, h => fun ι2 H2 b e2 w r => h ι2 H2 b (e.trans e2) w r
  | .bk _ _, h => fun ι2 H2 b e2 w r => h ι2 H2 b (e.trans e2) w r
  | .ct _ _, h => fun ι2 H2 b e2 w r => h ι2 H2 b (e.trans e2) w r
  | .rt _ _, h => fun ι2 H2 b e2 w r => h ι2 H2 b (e.trans e2) w r
  | .exc _ _ _, h => h
  | .bad, h => h
end
def tSv (K : PySem.W.Frag) (f : Ro → Store → Rs) : TS := fun E σ H => At K σ H fun ρ S ι => Post K E ι H (f ρ S)
theorem Fin.to {K : PySem.W.Frag} {ι : Ix} {H : Hp} {S : Store} {α β : Type} {R1 : Ix → Hp → α → β → Prop} {E : Ends} {Q1 : β → Hp → Prop} {m : M α} {k : α → Store → Rs}
    (h : Post K E ι H (m.to k S)) (q : ∀ a S1 ι1 H1 b, Ext ι H ι1 H1 → World K ι1 H1 S1 → R1 ι1 H1 a b → Post K E ι1 H1 (k a S1) → Q1 b H1) : Fin K R1 ι H Q1 (m S) := by
  unfold M.to at h
  cases e : m S with
  | ok a S1 => rw [e] at h; exact fun ι1 H1 b e1 w r => q a S1 ι1 H1 b e1 w r (h.mono e1)
  | exc _ _ _ => rw [e] at h; exact h.elim
  | bad => rw [e] at h; exact h.elim
structure CS (sv : Sm) where
  py : Stmt
  chk : Lx → Bool
  ok : ∀ (L : Lx) (Φ : Ph) (X : Cx), Gd L Φ X → chk L = true → PS X py (tSv X.K (sv Φ))
structure CB (sv : Sm) where
  py : List Stmt
  chk : Lx → Bool
  ok : ∀ (L : Lx) (Φ : Ph) (X : Cx), Gd L Φ X → chk L = true → PSs X py (tSv X.K (sv Φ))
def sNx : Sm := fun _ ρ S => .nx ρ S
def sSeq (a b : Sm) : Sm := fun Φ ρ S => match a Φ ρ S with
  | .nx ρ' S' => b Φ ρ' S'
  | r => r
theorem Post.now {K : PySem.W.Frag} {E : Ends} {ι : Ix} {H : Hp} {S : Store} {ρ : Ro} {σ : L2.St} (f : Post K E ι H (.nx ρ S)) (w : World K ι H S) (e : EnvOk K ι H ρ σ) : E.nx σ H := f ι H σ (.refl _ _) w e
def cbNil : CB sNx where
  py := []
  chk := fun _ => true
  ok := fun L Φ X g q => PSs.weak pss_nil fun E σ H ⟨ρ, S, ι, w, e, f⟩ => f.now w e
theorem Post.seq {K : PySem.W.Frag} {E : Ends} {ι : Ix} {H : Hp} {b : Ro → Store → Rs} : ∀ {r : Rs}, Post K E ι H (match r with | .nx ρ' S' => b ρ' S' | r => r) → Post K { E with nx := tSv K b E } ι H r
  | .nx ρ S, h => fun ι' H' σ' e w en => ⟨ρ, S, ι', w, en, h.mono e⟩
  | .bk _ _, h => h
  | .ct _ _, h => h
  | .rt _ _, h => h
  | .exc _ _ _, h => h
  | .bad, h => h
def cbCons {a b : Sm} (x : CS a) (y : CB b) : CB (sSeq a b) where
  py := x.py :: y.py
  chk := fun L => x.chk L && y.chk L
  ok := fun L Φ X g q => by
    obtain ⟨q1, q2⟩ := ba q
    exact PSs.weak (pss_cons (x.ok L Φ X g q1) (y.ok L Φ X g q2)) fun E σ H ⟨ρ, S, ι, w, e, f⟩ => ⟨ρ, S, ι, w, e, f.seq⟩
def cbOne {a : Sm} (x : CS a) : CB a where
  py := [x.py]
  chk := x.chk
  ok := fun L Φ X g q => pss_one (x.ok L Φ X g q)
def sBad : Sm := fun _ _ _ => .bad
def csNever (py : Stmt) : CS sBad where
  py := py
  chk := fun _ => true
  ok := fun L Φ X g q => PS.weak ps_never fun E σ H ⟨ρ, S, ι, w, e, f⟩ => f
def csPass (p : Pos) : CS sNx where
  py := .Pass p
  chk := fun _ => true
  ok := fun L Φ X g q => PS.weak ps_pass fun E σ H ⟨ρ, S, ι, w, e, f⟩ => f.now w e
def sBk : Sm := fun _ ρ S => .bk ρ S
def sCt : Sm := fun _ ρ S => .ct ρ S
def csBreak (p : Pos) : CS sBk where
  py := .Break p
  chk := fun _ => true
  ok := fun L Φ X g q => PS.weak ps_break fun E σ H ⟨ρ, S, ι, w, e, f⟩ => f ι H σ (.refl _ _) w e
def csContinue (p : Pos) : CS sCt where
  py := .Continue p
  chk := fun _ => true
  ok := fun L Φ X g q => PS.weak ps_continue fun E σ H ⟨ρ, S, ι, w, e, f⟩ => f ι H σ (.refl _ _) w e
def sRet (e : Ev) : Sm := fun Φ ρ => (e Φ ρ).to fun d S => .rt d S
def csRet {e : Ev} (x : CE e) (p : Pos) : CS (sRet e) where
  py := .Return (some x.py) p
  chk := x.chk
  ok := fun L Φ X g q => PS.weak (ps_ret (x.ok L Φ X g q)) fun E σ H ⟨ρ, S, ι, w, en, f⟩ => ⟨ρ, S, ι, w, en, Fin.to f fun d S1 ι1 H1 v e1 w1 r1 f1 => f1 ι1 H1 v (.refl _ _) w1 r1⟩
def sRetN : Sm := fun _ _ S => .rt .non S
def csRetN (p : Pos) : CS sRetN where
  py := .Return none p
  chk := fun _ => true
  ok := fun L Φ X g q => PS.weak ps_retN fun E σ H ⟨ρ, S, ι, w, en, f⟩ => f ι H .non (.refl _ _) w (relD_non.mpr rfl)
def sDrop (e : Ev) : Sm := fun Φ ρ => (e Φ ρ).to fun _ S => .nx ρ S
def csExpr {e : Ev} (x : CE e) (p : Pos) (hc : isComp x.py = false := by rfl) : CS (sDrop e) where
  py := .Expr x.py p
  chk := x.chk
  ok := fun L Φ X g q => PS.weak (ps_expr (x.ok L Φ X g q) (swaps_no hc _ _ _)) fun E σ H ⟨ρ, S, ι, w, en, f⟩ => ⟨ρ, S, ι, w, en, Fin.to f fun d S1 ι1 H1 v e1 w1 r1 f1 => f1.now w1 (en.mono e1)⟩
def csDoc (s : Str) (k : Nat) (p p' : Pos) : CS sNx where
  py := .Expr (.Constant (.str s) k p) p'
  chk := fun _ => true
  ok := fun L Φ X g q => PS.weak ps_doc fun E σ H ⟨ρ, S, ι, w, e, f⟩ => f.now w e
def sIf (t : Tv) (a b : Sm) : Sm := fun Φ ρ => (t Φ ρ).to fun c S => if c then a Φ ρ S else b Φ ρ S
def csIf {t : Tv} {a b : Sm} (c : CT t) (x : CB a) (y : CB b) (p : Pos) : CS (sIf t a b) where
  py := .If c.py x.py y.py p
  chk := fun L => c.chk L && (x.chk L && y.chk L)
  ok := fun L Φ X g q => by
    obtain ⟨q1, q2⟩ := ba q
    obtain ⟨q2, q3⟩ := ba q2
    refine PS.weak (ps_if (c.ok L Φ X g q1) (x.ok L Φ X g q2) (y.ok L Φ X g q3)) fun E σ H ⟨ρ, S, ι, w, en, f⟩ => ⟨ρ, S, ι, w, en, Fin.to f fun k S1 ι1 H1 v e1 w1 r1 f1 => ?_⟩
    cases (show k = v from r1)
    cases k with
    | true => exact ⟨ρ, S1, ι1, w1, en.mono e1, f1⟩
    | false => exact ⟨ρ, S1, ι1, w1, en.mono e1, f1⟩
/-! assignments -/
def sAsg (e : Ev) (g : Gm) : Sm := fun Φ ρ => (e Φ ρ).to fun d => (g Φ d ρ).to fun ρ' S => .nx ρ' S
theorem asg_weak {K : PySem.W.Frag} {e : Ro → M D} {g : D → Ro → M Ro} : ∀ E σ H, tSv K (fun ρ => (e ρ).to fun d => (g d ρ).to fun ρ' S => .nx ρ' S) E σ H → tAsg (tE K e) (tGG K g) E σ H :=
  fun E σ H ⟨ρ, S, ι, w, en, f⟩ => ⟨ρ, S, ι, w, en, Fin.to f fun d S1 ι1 H1 v e1 w1 r1 f1 => ⟨d, ρ, S1, ι1, w1, en.mono e1, r1, Fin.to f1 fun ρ' S2 ι2 H2 σ2 e2 w2 r2 f2 => f2.now w2 r2⟩⟩
def csSet {e : Ev} (i : Nat) (y : Str) (py : Pos) (x : CE e) (p : Pos) (hc : isComp x.py = false := by rfl) : CS (sAsg e (gmN (gNm i))) where
  py := .Assign [.Name y py] x.py p
  chk := fun L => x.chk L && nmB L i y
  ok := fun L Φ X g q => by
    obtain ⟨q1, q2⟩ := ba q
    exact PS.weak (ps_asg (x.ok L Φ X g q1) ((cgName i y py).ok L Φ X g q2) (show swapsWithSole [.Name y py] x.py p.line X.env = pure false from swaps_no hc (some (.Name y py)) p.line X.env)) asg_weak
/-- plain: no swapping of the stores -/
def csAsg {e : Ev} {gm : Gm} (t : CG gm) (x : CE e) (p : Pos) (ht : t.pln = true := by rfl) : CS (sAsg e gm) where
  py := .Assign [t.py] x.py p
  chk := fun L => x.chk L && t.chk L
  ok := fun L Φ X g q => by
    obtain ⟨q1, q2⟩ := ba q
    obtain ⟨n1, n2, n3⟩ := t.plnOk ht
    have sw : swapsWithSole [t.py] x.py p.line X.env = pure false := by
      show swapsWith x.py (some t.py) p.line X.env = pure false
      cases hx : isComp x.py with
      | false => exact swaps_no hx _ _ _
      | true =>
        generalize t.py = a at n1 n2 n3
        cases a with
        | Name y q => exact (n1 _ _ rfl).elim
        | _ =>
          generalize x.py = b at hx
          cases b <;> first | rfl | cases hx
    have st : swappedStores [t.py] x.py X.env = pure none := by
      generalize t.py = a at n1 n2 n3
      cases a with
      | Tuple y k q => exact (n2 _ _ _ rfl).elim
      | List y q => exact (n3 _ _ rfl).elim
      | _ => cases x.py <;> rfl
    exact PS.weak (ps_asg (x.ok L Φ X g q1) (t.ok L Φ X g q2) sw st (by rw [t.asg]; rfl)) asg_weak
/-- a tuple of targets -/
def nameAt (line : Nat) : Expr → Bool
  | .Name _ p => p.line == line
  | _ => false
def swNo (ts : List Expr) (v : Expr) : Bool := match v with
  | .Tuple vs _ _ => !(ts.length == 2 || ts.length == 3) || vs.length != ts.length || (ts.any fun | .Name .. => false | _ => true) || vs.all (foldedForSure 8)
  | _ => true
theorem filterMap_all {α β : Type} {f : α → Option β} : ∀ {l : List α}, (l.filterMap f).length = l.length → ∀ t ∈ l, (f t).isSome = true
  | [], _, t, h => by cases h
  | a :: l, e, t, h => by
    rw [List.filterMap_cons] at e
    cases ha : f a with
    | none =>
      rw [ha] at e
      have := List.length_filterMap_le f l
      simp only [List.length_cons] at e
      omega
    | some b =>
      rw [ha] at e
      simp only [List.length_cons, Nat.add_right_cancel_iff] at e
      rcases List.mem_cons.mp h with h | h
      · rw [h, ha]; rfl
      · exact filterMap_all e t h
theorem swNo_ok {ts : List Expr} {v : Expr} {k : Nat} {q : Pos} (h : swNo ts v = true) (env : Env) : swappedStores [.Tuple ts k q] v env = pure none := by
  cases v with
  | Tuple vs k2 q2 =>
    unfold swappedStores
    simp only [bind, pure_bind]
    by_cases h1 : (!(ts.length == 2 || ts.length == 3) || vs.length != ts.length || env.blockKind != .function) = true
    · rw [if_pos h1]
    · rw [if_neg h1]
      split
      · rfl
      · split
        · rfl
        · rename_i hn
          split
          · rfl
          · rename_i hf
            exfalso
            unfold swNo at h
            simp only [Bool.or_eq_true, not_or, Bool.not_eq_true] at h h1 hn
            rcases h with ((h | h) | h) | h
            · rw [h1.1.1] at h; cases h
            · rw [h1.1.2] at h; cases h
            · obtain ⟨t, ht, hh⟩ := List.any_eq_true.mp h
              have hl := hn.1
              simp only [bne_eq_false_iff_eq] at hl
              have := filterMap_all hl t ht
              cases t <;> first | exact Bool.false_ne_true (show false = true from hh) | exact Bool.false_ne_true (show false = true from this)
            · exact hf h
  | _ => rfl
def csTup {e : Ev} {gs : Gms} (t : CGs gs) (x : CE e) (k : Nat) (q p : Pos) (hc : isComp x.py = false := by rfl) (ht : swNo t.py x.py = true := by rfl) : CS (sAsg e (gmTup gs)) where
  py := .Assign [.Tuple t.py k q] x.py p
  chk := fun L => x.chk L && t.chk L
  ok := fun L Φ X g qq => by
    obtain ⟨q1, q2⟩ := ba qq
    exact PS.weak (ps_asg (x.ok L Φ X g q1) ((cgTup t k q).ok L Φ X g q2) (show swapsWithSole [.Tuple t.py k q] x.py p.line X.env = pure false from swaps_no hc (some (.Tuple t.py k q)) p.line X.env) (swNo_ok ht _)) asg_weak
end G
end

section
set_option Elab.async false
set_option linter.all false
set_option maxRecDepth 100000
namespace G
open PySem PySem.Spec PyProof.Rows L2

/-! ### a, b = x, y with names: the stores swapped -/
def lclB (L : Lx) (x : Str) : Bool := match L.sc.names.lookup x with
  | some .local => true
  | _ => false
theorem lclB_ok {L : Lx} {x : Str} (h : lclB L x = true) : L.sc.names.lookup x = some .local := by
  unfold lclB at h
  split at h <;> first | assumption | cases h
def funB (L : Lx) : Bool := match L.sc.kind with
  | .function => true
  | _ => false
theorem funB_ok {L : Lx} (h : funB L = true) : L.sc.kind = .function := by
  unfold funB at h
  split at h <;> first | assumption | cases h
def parB (vs : List Expr) : Bool := !(vs.all (foldedForSure 8)) && !(vs.all (constantsAlone 8))
def nmF (env : Env) (line : Nat) : Expr → Option Str
  | .Name id pos => if env.kindOf id == some .local && pos.line == line then some id else none
  | _ => none
def isSt : Expr → Bool
  | .Starred .. => true
  | _ => false
def swF (env : Env) (ts vs : List Expr) : Sem (Option (List Str)) :=
  if !(ts.length == 2 || ts.length == 3) || vs.length != ts.length || env.blockKind != .function then pure none else
  if vs.any isSt then pure none else
  if (ts.filterMap (nmF env ((ts.head?.map (·.pos.line)).getD 0))).length != ts.length || (ts.filterMap (nmF env ((ts.head?.map (·.pos.line)).getD 0))).eraseDups.length != (ts.filterMap (nmF env ((ts.head?.map (·.pos.line)).getD 0))).length then pure none else
  if vs.all (foldedForSure 8) then pure none else
  if vs.all (constantsAlone 8) then (do unsupported "assign.tuple-of-constant-expressions:order-of-the-stores"; pure (some (ts.filterMap (nmF env ((ts.head?.map (·.pos.line)).getD 0))))) else pure (some (ts.filterMap (nmF env ((ts.head?.map (·.pos.line)).getD 0))))
theorem sw_form (env : Env) (ts vs : List Expr) (k k2 : Nat) (q q2 : Pos) : swappedStores [.Tuple ts k q] (.Tuple vs k2 q2) env = swF env ts vs := by
  rfl
theorem sw_names {env : Env} {ts vs : List Expr} {k k2 : Nat} {q q2 : Pos} {names : List Str} (hk : env.scope.kind = .function) (hl : (ts.length == 2 || ts.length == 3) = true) (hv : vs.length = ts.length) (hs : ∀ v ∈ vs, plainE v = true)
    (hn : ts.filterMap (nmF env ((ts.head?.map (·.pos.line)).getD 0)) = names) (h3 : names.length = ts.length) (hd : names.eraseDups = names) (h : parB vs = true) : swappedStores [.Tuple ts k q] (.Tuple vs k2 q2) env = pure (some names) := by
  obtain ⟨h1, h2⟩ := ba h
  simp only [Bool.not_eq_true'] at h1 h2
  have bk : env.blockKind = .function := by unfold Env.blockKind; rw [hk]; rfl
  have st : vs.any isSt = false := by
    rw [List.any_eq_false]
    intro v hv
    have := hs v hv
    cases v <;> first | exact Bool.false_ne_true | cases this
  rw [sw_form]
  unfold swF
  rw [hn, hl, hv, bk, st, hd, h3, h1, h2]
  simp
theorem nmF_ok {env : Env} {x : Str} {p : Pos} {l : Nat} (hx : env.scope.names.lookup x = some .local) (hl : (p.line == l) = true) : nmF env l (.Name x p) = some x := by
  have kx : env.kindOf x = some .local := hx
  show (if (env.kindOf x == some .local && p.line == l) = true then some x else none) = some x
  rw [kx, hl]
  rfl
theorem sw_yes2 {env : Env} {x y : Str} {px py pt pt2 : Pos} {k k2 : Nat} {a b : Expr} (hk : env.scope.kind = .function) (hx : env.scope.names.lookup x = some .local) (hy : env.scope.names.lookup y = some .local) (hl : (py.line == px.line) = true) (hne : (y == x) = false)
    (pa : plainE a = true) (pb : plainE b = true) (h : parB [a, b] = true) : swappedStores [.Tuple [.Name x px, .Name y py] k pt] (.Tuple [a, b] k2 pt2) env = pure (some [x, y]) := by
  refine sw_names hk rfl rfl (by simp [pa, pb]) ?_ rfl ?_ h
  · show List.filterMap (nmF env px.line) [.Name x px, .Name y py] = [x, y]
    rw [List.filterMap_cons, nmF_ok hx (by simp), List.filterMap_cons, nmF_ok hy hl]; rfl
  · rw [List.eraseDups_cons]; simp [hne, List.eraseDups_cons]
def sPar (is : List Nat) (r : Ph → Ro → M (List D)) : Sm := fun Φ ρ => (r Φ ρ).to fun ds S => match setAll is ds ρ with
  | some ρ' => .nx ρ' S
  | none => .bad
def csPar2 {a b : Ev} (i j : Nat) (x y : Str) (px py : Pos) (k : Nat) (pt : Pos) (u : CE a) (v : CE b) (k2 : Nat) (pt2 pos : Pos) : CS (sPar [i, j] (aCons a (aCons b aNil))) where
  py := .Assign [.Tuple [.Name x px, .Name y py] k pt] (.Tuple [u.py, v.py] k2 pt2) pos
  chk := fun L => (funB L && ((lclB L x && lclB L y) && (decide (i ≠ j) && (decide (L.N[i]? = some x) && (decide (L.N[j]? = some y) && (py.line == px.line && (!(y == x) && parB [u.py, v.py]))))))) && (u.chk L && v.chk L)
  ok := fun L Φ X g q => by
    obtain ⟨qa, qz⟩ := ba q
    obtain ⟨z1, z2⟩ := ba qz
    obtain ⟨q1, qb⟩ := ba qa
    obtain ⟨qc, qd⟩ := ba qb
    obtain ⟨q2, q3⟩ := ba qc
    obtain ⟨q4, qe⟩ := ba qd
    obtain ⟨q5, qf⟩ := ba qe
    obtain ⟨q6, qg⟩ := ba qf
    obtain ⟨q7, qh⟩ := ba qg
    obtain ⟨q8, q9⟩ := ba qh
    have hne : (y == x) = false := by simpa using q8
    have hx : X.env.scope.names.lookup x = some .local := by rw [g.sc]; exact lclB_ok q2
    have hy : X.env.scope.names.lookup y = some .local := by rw [g.sc]; exact lclB_ok q3
    refine PS.weak (ps_par g.calm g.nd (by rw [g.N]; exact of_decide_eq_true q5) (by rw [g.N]; exact of_decide_eq_true q6) (of_decide_eq_true q4) hx hy ((caCons u (caCons v caNil)).ok L Φ X g (by show (u.chk L && (v.chk L && true)) = true; rw [z1, z2]; rfl))
      (sw_yes2 (by rw [g.sc]; exact funB_ok q1) hx hy q7 hne u.pl v.pl q9)) fun E σ H ⟨ρ, S, ι, w, en, f⟩ => ⟨ρ, S, ι, w, en, Fin.to f fun ds S1 ι1 H1 vs e1 w1 r1 f1 => ?_⟩
    cases ds with
    | nil => exact f1.elim
    | cons d1 ds =>
      cases ds with
      | nil => exact f1.elim
      | cons d2 ds =>
        cases ds with
        | nil =>
          obtain ⟨v1, v2, e2, r2, r3⟩ := relDs_two r1
          exact ⟨v1, v2, e2, (show Post X.K E ι1 H1 (.nx ((ρ.set i (some d1)).set j (some d2)) S1) from f1).now w1 (((en.mono e1).set r2 i).set r3 j)⟩
        | cons d3 ds => exact f1.elim
theorem sw_yes3 {env : Env} {x y z : Str} {px py pz pt pt2 : Pos} {k k2 : Nat} {a b c : Expr} (hk : env.scope.kind = .function) (hx : env.scope.names.lookup x = some .local) (hy : env.scope.names.lookup y = some .local) (hz : env.scope.names.lookup z = some .local) (hl : (py.line == px.line) = true) (hl2 : (pz.line == px.line) = true) (hne : (y == x) = false) (hne2 : (z == x) = false) (hne3 : (z == y) = false)
    (pa : plainE a = true) (pb : plainE b = true) (pc : plainE c = true) (h : parB [a, b, c] = true) : swappedStores [.Tuple [.Name x px, .Name y py, .Name z pz] k pt] (.Tuple [a, b, c] k2 pt2) env = pure (some [x, y, z]) := by
  refine sw_names hk rfl rfl (by simp [pa, pb, pc]) ?_ rfl ?_ h
  · show List.filterMap (nmF env px.line) [.Name x px, .Name y py, .Name z pz] = [x, y, z]
    rw [List.filterMap_cons, nmF_ok hx (by simp), List.filterMap_cons, nmF_ok hy hl, List.filterMap_cons, nmF_ok hz hl2]; rfl
  · rw [List.eraseDups_cons]
    simp [hne, hne2, List.eraseDups_cons, hne3]
def csPar3 {a b c : Ev} (i j l : Nat) (x y z : Str) (px py pz : Pos) (k : Nat) (pt : Pos) (u : CE a) (v : CE b) (t : CE c) (k2 : Nat) (pt2 pos : Pos) : CS (sPar [i, j, l] (aCons a (aCons b (aCons c aNil)))) where
  py := .Assign [.Tuple [.Name x px, .Name y py, .Name z pz] k pt] (.Tuple [u.py, v.py, t.py] k2 pt2) pos
  chk := fun L => ((funB L && (lclB L x && (lclB L y && lclB L z))) && ((decide (i ≠ j) && (decide (i ≠ l) && decide (j ≠ l))) && ((decide (L.N[i]? = some x) && (decide (L.N[j]? = some y) && decide (L.N[l]? = some z))) && ((py.line == px.line && pz.line == px.line) && ((!(y == x) && (!(z == x) && !(z == y))) && parB [u.py, v.py, t.py]))))) && (u.chk L && (v.chk L && t.chk L))
  ok := fun L Φ X g q => by
    obtain ⟨qa, qz⟩ := ba q
    obtain ⟨z1, qz⟩ := ba qz
    obtain ⟨z2, z3⟩ := ba qz
    obtain ⟨qb, qc⟩ := ba qa
    obtain ⟨q1, qb⟩ := ba qb
    obtain ⟨q2, qb⟩ := ba qb
    obtain ⟨q3, q4⟩ := ba qb
    obtain ⟨qd, qc⟩ := ba qc
    obtain ⟨d1, qd⟩ := ba qd
    obtain ⟨d2, d3⟩ := ba qd
    obtain ⟨qe, qc⟩ := ba qc
    obtain ⟨n1, qe⟩ := ba qe
    obtain ⟨n2, n3⟩ := ba qe
    obtain ⟨ql, qc⟩ := ba qc
    obtain ⟨l1, l2⟩ := ba ql
    obtain ⟨qn, q9⟩ := ba qc
    obtain ⟨m1, qn⟩ := ba qn
    obtain ⟨m2, m3⟩ := ba qn
    have hne : (y == x) = false := by simpa using m1
    have hne2 : (z == x) = false := by simpa using m2
    have hne3 : (z == y) = false := by simpa using m3
    have hx : X.env.scope.names.lookup x = some .local := by rw [g.sc]; exact lclB_ok q2
    have hy : X.env.scope.names.lookup y = some .local := by rw [g.sc]; exact lclB_ok q3
    have hz : X.env.scope.names.lookup z = some .local := by rw [g.sc]; exact lclB_ok q4
    refine PS.weak (ps_par3 g.calm g.nd (by rw [g.N]; exact of_decide_eq_true n1) (by rw [g.N]; exact of_decide_eq_true n2) (by rw [g.N]; exact of_decide_eq_true n3) (of_decide_eq_true d1) (of_decide_eq_true d2) (of_decide_eq_true d3) hx hy hz
      ((caCons u (caCons v (caCons t caNil))).ok L Φ X g (by show (u.chk L && (v.chk L && (t.chk L && true))) = true; rw [z1, z2, z3]; rfl))
      (sw_yes3 (by rw [g.sc]; exact funB_ok q1) hx hy hz l1 l2 hne hne2 hne3 u.pl v.pl t.pl q9)) fun E σ H ⟨ρ, S, ι, w, en, f⟩ => ⟨ρ, S, ι, w, en, Fin.to f fun ds S1 ι1 H1 vs e1 w1 r1 f1 => ?_⟩
    cases ds with
    | nil => exact f1.elim
    | cons d1 ds =>
      cases ds with
      | nil => exact f1.elim
      | cons d2 ds =>
        cases ds with
        | nil => exact f1.elim
        | cons d3 ds =>
          cases ds with
          | nil =>
            unfold RelDs at r1
            obtain ⟨v1, vr, e2, r2, r3⟩ := r1
            obtain ⟨v2, v3, e4, r4, r5⟩ := relDs_two r3
            subst e4
            exact ⟨v1, v2, v3, e2, (show Post X.K E ι1 H1 (.nx (((ρ.set i (some d1)).set j (some d2)).set l (some d3)) S1) from f1).now w1 ((((en.mono e1).set r2 i).set r4 j).set r5 l)⟩
          | cons d4 ds => exact f1.elim

/-! a tuple of names, not all of them plain locals: no swapping -/
def swQ (L : Lx) (ts : List Expr) : Bool := ts.any fun | .Name x _ => !(lclB L x) | _ => true
theorem swQ_ok {L : Lx} {env : Env} (hs : env.scope = L.sc) {ts : List Expr} {v : Expr} {k : Nat} {q : Pos} (h : swQ L ts = true) : swappedStores [.Tuple ts k q] v env = pure none := by
  cases v with
  | Tuple vs k2 q2 =>
    rw [sw_form]
    unfold swF
    split
    · rfl
    · split
      · rfl
      · split
        · rfl
        · rename_i hn
          exfalso
          simp only [Bool.or_eq_true, not_or, Bool.not_eq_true, bne_eq_false_iff_eq] at hn
          obtain ⟨t, ht, hh⟩ := List.any_eq_true.mp h
          have := filterMap_all hn.1 t ht
          cases t with
          | Name x p =>
            have hh : (!(lclB L x)) = true := hh
            have this : (if (env.kindOf x == some NameKind.local && p.line == (Option.map (fun x : Expr => x.pos.line) ts.head?).getD 0) = true then some x else none).isSome = true := this
            split at this
            · rename_i hk
              obtain ⟨hk, _⟩ := ba hk
              have hk : env.scope.names.lookup x = some .local := by
                have z : (env.scope.names.lookup x == some .local) = true := hk
                exact eq_of_beq z
              rw [hs] at hk
              unfold lclB at hh
              rw [hk] at hh
              cases hh
            · cases this
          | _ => exact Bool.false_ne_true (show false = true from this)
  | _ => rfl
def csTupQ {e : Ev} {gs : Gms} (t : CGs gs) (x : CE e) (k : Nat) (q p : Pos) (hc : isComp x.py = false := by rfl) : CS (sAsg e (gmTup gs)) where
  py := .Assign [.Tuple t.py k q] x.py p
  chk := fun L => swQ L t.py && (x.chk L && t.chk L)
  ok := fun L Φ X g qq => by
    obtain ⟨q0, qq⟩ := ba qq
    obtain ⟨q1, q2⟩ := ba qq
    exact PS.weak (ps_asg (x.ok L Φ X g q1) ((cgTup t k q).ok L Φ X g q2) (show swapsWithSole [.Tuple t.py k q] x.py p.line X.env = pure false from swaps_no hc (some (.Tuple t.py k q)) p.line X.env) (swQ_ok g.sc q0)) asg_weak
/-! ### x = [..] -/
/-- x = [..], and x's name takes another road -/
def swpB (L : Lx) (y : Str) (py : Pos) : Expr → Bool
  | .ListComp _ _ s p => lclB L y && (py.line == p.line && !(s.names.any fun (n, k) => n == y && (k == .local || k == .cell)))
  | .SetComp .. => true
  | .DictComp .. => true
  | _ => false
theorem swp_no {L : Lx} {env : Env} (hs : env.scope = L.sc) (hf : funB L = true) {y : Str} {py : Pos} {l : Nat} {e : Expr} (h : swpB L y py e = false) : swapsWith e (some (.Name y py)) l env = pure false := by
  cases e with
  | ListComp elt gs s p =>
    have bk : env.blockKind = .function := by unfold Env.blockKind; rw [hs, funB_ok hf]; rfl
    have ky : env.kindOf y = L.sc.names.lookup y := by show env.scope.names.lookup y = _; rw [hs]
    unfold swapsWith
    simp only [bk, ky]
    have h : (lclB L y && (py.line == p.line && !(s.names.any fun (n, k) => n == y && (k == .local || k == .cell)))) = false := h
    show (pure (ScopeKind.function == .function && L.sc.names.lookup y == some .local && py.line == (Expr.ListComp elt gs s p).pos.line && !(s.names.any fun (n, k) => n == y && (k == .local || k == .cell))) : Sem Bool) = pure false
    congr 1
    have e1 : (ScopeKind.function == ScopeKind.function) = true := rfl
    rw [e1, Bool.true_and]
    have e2 : (L.sc.names.lookup y == some .local) = lclB L y := by
      unfold lclB
      cases hz : L.sc.names.lookup y with
      | none => rfl
      | some k => cases k <;> rfl
    rw [e2, Bool.and_assoc]
    exact h
  | SetComp _ _ _ _ => cases h
  | DictComp _ _ _ _ _ => cases h
  | _ => rfl
def csSetQ {e : Ev} (i : Nat) (y : Str) (py : Pos) (x : CE e) (p : Pos) : CS (sAsg e (gmN (gNm i))) where
  py := .Assign [.Name y py] x.py p
  chk := fun L => (funB L && !(swpB L y py x.py)) && (x.chk L && nmB L i y)
  ok := fun L Φ X g q => by
    obtain ⟨qa, q⟩ := ba q
    obtain ⟨q1, q2⟩ := ba q
    obtain ⟨h1, h2⟩ := ba qa
    have sw : swapsWithSole [.Name y py] x.py p.line X.env = pure false := swp_no (y := y) (py := py) (l := p.line) (e := x.py) g.sc h1 (by simpa using h2)
    have st : swappedStores [.Name y py] x.py X.env = pure none := by cases x.py <;> rfl
    exact PS.weak (ps_asg (x.ok L Φ X g q1) ((cgName i y py).ok L Φ X g q2) sw st) asg_weak
theorem set_weak {K : PySem.W.Frag} {e : Ro → M D} {te : TE} {i : Nat} (h : ∀ σ H Q, tE K e σ H Q → te σ H Q) : ∀ E σ H, tSv K (fun ρ => (e ρ).to fun d => (tgM (gNm i) d ρ).to fun ρ' S => .nx ρ' S) E σ H → tAsg te (gName i) E σ H :=
  fun E σ H ⟨ρ, S, ι, w, en, f⟩ => h σ H _ ⟨ρ, S, ι, w, en, Fin.to f fun d S1 ι1 H1 v e1 w1 r1 f1 => (show Post K E ι1 H1 (.nx (ρ.set i (some d)) S1) from f1).now w1 ((en.mono e1).set r1 i)⟩
def lcOwn (scope : Scope) (y : Str) : Bool := !(scope.names.any fun (n, k) => n == y && (k == .local || k == .cell))
def csSetLc (m : Bool) {sv : Sv} {gv : Gv} {tv : Tv} {ev : Ev} (i : Nat) (y : Str) (py : Pos) (src : CI sv) (tg : CN gv) (ts : CTs tv) (el : CE ev) (scope : Scope) (own : List (Str × Nat)) (p pos : Pos) : CS (sAsg (eLc m sv gv tv ev (own.map (·.2))) (gmN (gNm i))) where
  py := .Assign [.Name y py] (.ListComp el.py [⟨tg.py, src.py, ts.py, 0⟩] scope p) pos
  chk := fun L => (decide (L.N[i]? = some y) && (lclB L y && (funB L && (py.line == p.line && lcOwn scope y)))) && lcCore m src tg ts el scope own L
  ok := fun L Φ X g q => by
    obtain ⟨qz, q⟩ := ba q
    obtain ⟨z1, qz⟩ := ba qz
    obtain ⟨z2, qz⟩ := ba qz
    obtain ⟨z3, qz⟩ := ba qz
    obtain ⟨z4, z5⟩ := ba qz
    obtain ⟨qa, qb⟩ := ba q
    obtain ⟨q1, q2⟩ := ba qa
    obtain ⟨q3, qc⟩ := ba qb
    obtain ⟨q4, qd⟩ := ba qc
    obtain ⟨q5, qe⟩ := ba qd
    obtain ⟨q6, q7⟩ := ba qe
    have hpr : src.pr = true → isTup tg.py = true := fun h => by
      rw [← tg.tuOk]
      rw [h] at q2
      simpa using q2
    have hy : X.env.scope.names.lookup y = some .local := by rw [g.sc]; exact lclB_ok z2
    refine PS.weak (ps_setLc (i := i) g.calm g.nd (by rw [g.N]; exact of_decide_eq_true z1) hy (sw_true (by rw [g.sc]; exact funB_ok z3) hy z4 (by simpa [lcOwn] using z5)) (src.ok L Φ X g q1 tg.py hpr) (blkOk_by (by rw [g.N, g.sc]; exact q3)) (fun s H C cl fp => tg.ok _ Φ _ (g.blk scope s H C cl fp) q5) (fun s H C cl fp => ts.ok _ Φ _ (g.blk scope s H C cl fp) q6)
      (fun s H C cl fp => el.ok _ Φ _ (g.blk scope s H C cl fp) q7) (folded_pl src.pl _)) (set_weak (lc_weak (of_decide_eq_true q4)))
def csSetLc2 (m : Bool) {sv sv1 : Sv} {gv gv1 : Gv} {tv tv1 : Tv} {ev : Ev} (i : Nat) (y : Str) (py : Pos) (src : CI sv) (tg : CN gv) (ts : CTs tv) (src1 : CI sv1) (vs1 : List Nat) (tg1 : CN gv1) (ts1 : CTs tv1) (el : CE ev) (scope : Scope) (own : List (Str × Nat)) (p pos : Pos) : CS (sAsg (eLc2 m sv gv tv sv1 vs1 gv1 tv1 ev (own.map (·.2))) (gmN (gNm i))) where
  py := .Assign [.Name y py] (.ListComp el.py [⟨tg.py, src.py, ts.py, 0⟩, ⟨tg1.py, src1.py, ts1.py, 0⟩] scope p) pos
  chk := fun L => (decide (L.N[i]? = some y) && (lclB L y && (funB L && (py.line == p.line && lcOwn scope y)))) && lc2Core src tg ts src1 vs1 tg1 ts1 el scope own L
  ok := fun L Φ X g q => by
    obtain ⟨qz, q⟩ := ba q
    obtain ⟨z1, qz⟩ := ba qz
    obtain ⟨z2, qz⟩ := ba qz
    obtain ⟨z3, qz⟩ := ba qz
    obtain ⟨z4, z5⟩ := ba qz
    obtain ⟨qa, qb⟩ := ba q
    obtain ⟨q1, q2⟩ := ba qa
    obtain ⟨q3, qc⟩ := ba qb
    obtain ⟨q4, qd⟩ := ba qc
    obtain ⟨q5, qe⟩ := ba qd
    obtain ⟨q6, qf⟩ := ba qe
    obtain ⟨q7, qg⟩ := ba qf
    obtain ⟨q8, qh⟩ := ba qg
    obtain ⟨q9, qi⟩ := ba qh
    obtain ⟨q10, qj⟩ := ba qi
    obtain ⟨q11, qk⟩ := ba qj
    obtain ⟨q12, q13⟩ := ba qk
    have hpr : src.pr = true → isTup tg.py = true := fun h => by
      rw [← tg.tuOk]
      rw [h] at q2
      simpa using q2
    have hpr1 : src1.pr = true → isTup tg1.py = true := fun h => by
      rw [← tg1.tuOk]
      rw [h] at q10
      simpa using q10
    have hy : X.env.scope.names.lookup y = some .local := by rw [g.sc]; exact lclB_ok z2
    refine PS.weak (ps_setLc2 (i := i) (vs1 := vs1) g.calm g.nd (by rw [g.N]; exact of_decide_eq_true z1) hy (sw_true (by rw [g.sc]; exact funB_ok z3) hy z4 (by simpa [lcOwn] using z5)) (src.ok L Φ X g q1 tg.py hpr) (blkOk_by (by rw [g.N, g.sc]; exact q3)) (of_decide_eq_true q8) (fun s H C cl fp => tg.ok _ Φ _ (g.blk scope s H C cl fp) q5) (fun s H C cl fp => ts.ok _ Φ _ (g.blk scope s H C cl fp) q6)
      (fun s H C cl fp => src1.ok _ Φ _ (g.blk scope s H C cl fp) q9 tg1.py hpr1) (fun s H C cl fp => tg1.ok _ Φ _ (g.blk scope s H C cl fp) q12) (fun s H C cl fp => ts1.ok _ Φ _ (g.blk scope s H C cl fp) q13)
      (fun s H C cl fp => el.ok _ Φ _ (g.blk scope s H C cl fp) q7) (folded_pl src.pl _) (fun env x => folded_pl src1.pl env x)) (set_weak (lc2_weak (of_decide_eq_true q4) (of_decide_eq_true q11)))

/-! ### for -/
def forK (nxt : Ro → Store → Rs) : Rs → Rs
  | .nx ρ S => nxt ρ S
  | .ct ρ S => nxt ρ S
  | .bk ρ S => .nx ρ S
  | r => r
def forS (fin : M Unit) (gm : D → Ro → M Ro) (body : Ro → Store → Rs) : List (M D) → Ro → Store → Rs
  | [] => fun ρ => fin.to fun _ S => .nx ρ S
  | rd :: r => fun ρ => rd.to fun d => (gm d ρ).to fun ρ1 S1 => forK (forS fin gm body r) (body ρ1 S1)
def sFor (sv : Sv) (gm : Gm) (b : Sm) : Sm := fun Φ ρ => (sv Φ ρ).to fun s => forS s.fin (gm Φ) (b Φ) s.rd ρ
theorem for_weak {K : PySem.W.Frag} {sv : Ro → M Src} {gm : D → Ro → M Ro} {b : Ro → Store → Rs} : ∀ E σ H, tSv K (fun ρ => (sv ρ).to fun s => forS s.fin gm b s.rd ρ) E σ H → tFor (tI K sv) (tGG K gm) (tSv K b) E σ H := by
  intro E σ H ⟨ρ, S, ι, w, en, f⟩
  refine ⟨ρ, S, ι, w, en, Fin.to f fun src S1 ι1 H1 J e1 w1 s1 f1 => ?_⟩
  have s1 : SrcOk K ι1 H1 J src := s1
  refine ⟨fun i n σ H => n = src.rd.length - i ∧ i ≤ src.rd.length ∧ ∃ ρ S ι, Ext ι1 H1 ι H ∧ World K ι H S ∧ EnvOk K ι H ρ σ ∧ Post K E ι H (forS src.fin gm b (src.rd.drop i) ρ S), ⟨_, rfl, Nat.zero_le _, ρ, S1, ι1, .refl _ _, w1, en.mono e1, f1⟩, ?_⟩
  rintro i n σ2 H2 ⟨rfl, hi, ρ2, S2, ι2, e2, w2, en2, f2⟩
  by_cases hlt : i < src.rd.length
  · rw [List.drop_eq_getElem_cons hlt] at f2
    unfold forS at f2
    have hrd : src.rd[i]? = some src.rd[i] := List.getElem?_eq_getElem hlt
    generalize src.rd[i] = rd at f2 hrd
    generalize hr : src.rd.drop (i + 1) = rest at f2
    have f0 : ∃ d S3, rd S2 = .ok d S3 ∧ Post K E ι2 H2 ((gm d ρ2).to (fun ρ1 S1 => forK (forS src.fin gm b rest) (b ρ1 S1)) S3) := by
      unfold M.to at f2
      cases q : rd S2 with
      | ok d S3 => rw [q] at f2; exact ⟨d, S3, rfl, f2⟩
      | exc _ _ _ => rw [q] at f2; exact f2.elim
      | bad => rw [q] at f2; exact f2.elim
    obtain ⟨d, S3, hd, f3⟩ := f0
    obtain ⟨hS, go, hy⟩ := s1.go i rd hrd _ _ _ _ _ e2.toGrow w2 hd
    subst hS
    refine .inr ⟨go, fun σ' H' => ∃ ρ S ι, Ext ι1 H1 ι H' ∧ World K ι H' S ∧ EnvOk K ι H' ρ σ' ∧ Post K E ι H' (forS src.fin gm b rest ρ S), fun σ' H' q => ⟨_, (by omega : src.rd.length - (i + 1) < src.rd.length - i), rfl, hlt, by rw [hr]; exact q⟩, fun x H' y => ?_⟩
    obtain ⟨e4, w4, r4⟩ := hy x H' y
    refine ⟨d, ρ2, S3, ι2, w4, en2.mono e4, r4, Fin.to (f3.mono e4) fun ρ5 S5 ι5 H5 σ5 e5 w5 r5 f5 => ⟨ρ5, S5, ι5, w5, r5, ?_⟩⟩
    have ex5 := (e2.trans e4).trans e5
    show Post K _ ι5 H5 (b ρ5 S5)
    cases hb : b ρ5 S5 with
    | nx ρ6 S6 =>
      rw [hb] at f5
      exact fun ι6 H6 σ6 e6 w6 r6 => ⟨ρ6, S6, ι6, ex5.trans e6, w6, r6, f5.mono e6⟩
    | ct ρ6 S6 =>
      rw [hb] at f5
      exact fun ι6 H6 σ6 e6 w6 r6 => ⟨ρ6, S6, ι6, ex5.trans e6, w6, r6, f5.mono e6⟩
    | bk ρ6 S6 => rw [hb] at f5; exact f5
    | rt d6 S6 => rw [hb] at f5; exact f5
    | exc _ _ _ => rw [hb] at f5; exact f5.elim
    | bad => rw [hb] at f5; exact f5.elim
  · have hi' : i = src.rd.length := by omega
    subst hi'
    rw [List.drop_length] at f2
    unfold forS M.to at f2
    cases q : src.fin S2 with
    | ok u S3 =>
      rw [q] at f2
      obtain ⟨hS, st⟩ := s1.stop _ _ _ _ e2.toGrow w2 q
      subst hS
      exact .inl ⟨st, (show Post K E ι2 H2 (.nx ρ2 S3) from f2).now w2 en2⟩
    | exc _ _ _ => rw [q] at f2; exact f2.elim
    | bad => rw [q] at f2; exact f2.elim
def csFor {sv : Sv} {gm : Gm} {b : Sm} (src : CI sv) (tg : CG gm) (body : CB b) (p : Pos) (hp : (!src.pr || tg.tu) = true := by rfl) : CS (sFor sv gm b) where
  py := .For tg.py src.py body.py [] p
  chk := fun L => src.chk L && (tg.chk L && body.chk L)
  ok := fun L Φ X g q => by
    obtain ⟨q1, q2⟩ := ba q
    obtain ⟨q2, q3⟩ := ba q2
    have hpr : src.pr = true → isTup tg.py = true := fun h => by
      rw [← tg.tuOk]
      rw [h] at hp
      simpa using hp
    exact PS.weak (ps_for g.po g.calm (src.ok L Φ X g q1 tg.py hpr) (tg.ok L Φ X g q2) (body.ok L Φ X g q3) (folded_pl src.pl _)) for_weak
end G
end

section
set_option Elab.async false
set_option linter.all false
set_option maxRecDepth 100000
namespace G
open PySem PySem.Spec PyProof.Rows L2

/-! ### what a def's end lets out -/
section
variable {K : PySem.W.Frag} {ι ι' κ : Ix} {H H' : Hp} {S : Store}
mutual
theorem RelD.shrink {n : Nat} (sub : ∀ a, a ∈ κ → a ∈ ι) (pre : ∀ (k : Nat) (a : Addr), k < n → ι.cs[k]? = some a → κ.cs[k]? = some a) : ∀ (d : D) {v : V}, D.bel n d = true → RelD K ι H d v → RelD K κ H d v
  | .non, v, _, h => by unfold RelD at h ⊢; exact h
  | .bl _, v, _, h => by unfold RelD at h ⊢; exact h
  | .int _, v, _, h => by unfold RelD at h ⊢; exact h
  | .str _, v, _, h => by unfold RelD at h ⊢; exact h
  | .tup ds, v, q, h => by
    unfold RelD at h ⊢
    obtain ⟨a, vs, h1, h2, h3, h4⟩ := h
    exact ⟨a, vs, h1, h2, h3, RelDs.shrink sub pre ds q h4⟩
  | .tpk ds, v, q, h => by
    unfold RelD at h ⊢
    obtain ⟨a, vs, h1, h2, h3, h4⟩ := h
    exact ⟨a, vs, h1, h2, h3, RelDs.shrink sub pre ds q h4⟩
  | .lst ds, v, q, h => by
    unfold RelD at h ⊢
    obtain ⟨a, vs, h1, h2, h3, h4, h5⟩ := h
    exact ⟨a, vs, h1, h2, h3, fun z => h4 (sub a z), RelDs.shrink sub pre ds q h5⟩
  | .rol ds, v, q, h => by
    unfold RelD at h ⊢
    obtain ⟨a, vs, h1, h2, h3, h4⟩ := h
    exact ⟨a, vs, h1, h2, h3, RelDs.shrink sub pre ds q h4⟩
  | .dct ks ds, v, q, h => by
    unfold RelD at h ⊢
    obtain ⟨a, kvs, h1, h2, h3, h4, h5⟩ := h
    exact ⟨a, kvs, h1, h2, fun z => h3 (sub a z), h4, RelDs.shrink sub pre ds q h5⟩
  | .ref m, v, q, h => by
    unfold RelD at h ⊢
    obtain ⟨a, h1, h2⟩ := h
    unfold D.bel at q
    exact ⟨a, h1, pre m a (of_decide_eq_true q) h2⟩
theorem RelDs.shrink {n : Nat} (sub : ∀ a, a ∈ κ → a ∈ ι) (pre : ∀ (k : Nat) (a : Addr), k < n → ι.cs[k]? = some a → κ.cs[k]? = some a) : ∀ (ds : List D) {vs : List V}, D.bels n ds = true → RelDs K ι H ds vs → RelDs K κ H ds vs
  | [], vs, _, h => by unfold RelDs at h ⊢; exact h
  | d :: r, vs, q, h => by
    unfold RelDs at h ⊢
    unfold D.bels at q
    obtain ⟨q1, q2⟩ := Bool.and_eq_true_iff.mp q
    obtain ⟨v, vr, h1, h2, h3⟩ := h
    exact ⟨v, vr, h1, RelD.shrink sub pre d q1 h2, RelDs.shrink sub pre r q2 h3⟩
end
theorem CellR.shrink {n : Nat} (sub : ∀ a, a ∈ κ → a ∈ ι) (pre : ∀ (k : Nat) (a : Addr), k < n → ι.cs[k]? = some a → κ.cs[k]? = some a) {a : Addr} : ∀ {c : Cell}, D.bels n c.items = true → CellR K ι H a c → CellR K κ H a c
  | .lst ds, q, ⟨vs, h1, h2, h3⟩ => ⟨vs, h1, h2, h3.shrink sub pre _ q⟩
  | .dK ks ds, q, ⟨vs, h1, h2, h3⟩ => ⟨vs, h1, h2, h3.shrink sub pre _ q⟩
  | .dT ks ds, q, ⟨vs, h1, h2, h3⟩ => ⟨vs, h1, h2, h3.shrink sub pre _ q⟩
theorem Ext.shrink (e : Ext ι H ι' H') (sub : ∀ a, a ∈ κ → a ∈ ι') (pre : ∀ (k : Nat) (a : Addr), k < ι.cs.length → ι'.cs[k]? = some a → κ.cs[k]? = some a) (hp : κ.pv = ι'.pv) : Ext ι H κ H' :=
  ⟨⟨fun n a h => pre n a (List.getElem?_eq_some_iff.mp h).1 (e.pre n a h), fun a h => e.new a (sub a h), e.keep, e.tup, e.frz⟩, hp.trans e.pve, e.pvk⟩
theorem Ext.len (e : Ext ι H ι' H') : ι.cs.length ≤ ι'.cs.length := by
  cases h : ι.cs.length with
  | zero => exact Nat.zero_le _
  | succ n =>
    have hn : n < ι.cs.length := by omega
    have := e.pre n _ (List.getElem?_eq_getElem hn)
    exact (List.getElem?_eq_some_iff.mp this).1
end
def leave (frz : Bool) (n : Nat) (d : D) (S : Store) : R D :=
  if D.bel n d then .ok d (S.take n)
  else match d with
    | .ref m => match S[m]? with
      | some (.lst xs) => if D.bels n xs then (if frz then .ok (.lst xs) (S.take n) else .ok (.ref n) (S.take n ++ [.lst xs])) else .bad
      | _ => .bad
    | _ => .bad
theorem leave_ok {K : PySem.W.Frag} {ι ι' : Ix} {H H' : Hp} {S S' : Store} {Q : VK} {frz : Bool} {d : D} {v : V} (f : Fin K (RelD K) ι H Q (leave frz S.length d S')) (w0 : World K ι H S) (e : Ext ι H ι' H') (w : World K ι' H' S') (r : RelD K ι' H' d v) : Q v H' := by
  have hl : S.length ≤ S'.length := by rw [← w0.len, ← w.len]; exact e.len
  unfold leave at f
  by_cases hb : D.bel S.length d = true
  · rw [if_pos hb] at f
    refine f (ι'.take S.length) H' v (e.shrink (fun a h => Ix.of_take h) (fun k a hk h => ?_) rfl) (w.cut _) (r.cut _ hb)
    exact getElem?_take_some (by rw [← w0.len]; exact hk) h
  · rw [if_neg hb] at f
    cases d with
    | ref m =>
      have f : Fin K (RelD K) ι H Q (match S'[m]? with
        | some (.lst xs) => if D.bels S.length xs then (if frz then .ok (.lst xs) (S'.take S.length) else .ok (.ref S.length) (S'.take S.length ++ [.lst xs])) else .bad
        | _ => .bad) := f
      obtain ⟨a, h1, h2⟩ := relD_ref.mp r
      have hm : ¬ m < S.length := fun z => hb (by unfold D.bel; exact decide_eq_true z)
      cases hs : S'[m]? with
      | none => rw [hs] at f; exact f.elim
      | some c =>
        cases c with
        | lst xs =>
          rw [hs] at f
          have f : Fin K (RelD K) ι H Q (if D.bels S.length xs then (if frz then .ok (.lst xs) (S'.take S.length) else .ok (.ref S.length) (S'.take S.length ++ [.lst xs])) else .bad) := f
          by_cases hx : D.bels S.length xs = true
          · rw [if_pos hx] at f
            obtain ⟨b, vs, k1, k2, k3, k4⟩ := w.lstAt hs
            rw [h2] at k1; cases k1
            have na : a ∉ (ι'.take S.length).cs := fun z => by
              obtain ⟨n, hn, en⟩ := List.mem_iff_getElem.mp z
              have q : (ι'.take S.length).cs[n]? = some a := by rw [List.getElem?_eq_getElem hn, en]
              have q2 : (ι'.cs.take S.length)[n]? = some a := q
              rw [List.getElem?_take] at q2
              split at q2
              · rename_i hlt
                have := w.apart q2 h2
                omega
              · cases q2
            have nv : a ∉ ι'.pv := fun z => w.apt a z (List.mem_of_getElem? h2)
            cases frz with
            | true =>
              rw [if_pos rfl] at f
              refine f (ι'.take S.length) H' v (e.shrink (fun a h => Ix.of_take h) (fun k a hk h => getElem?_take_some (by rw [← w0.len]; exact hk) h) rfl) (w.cut _) ?_
              exact relD_lst.mpr ⟨a, vs, h1, k2, k3, fun z => z.elim na nv, k4.cut _ hx⟩
            | false =>
              rw [if_neg (by decide)] at f
              have sub : ∀ b, b ∈ (ι'.take S.length).add a → b ∈ ι' := fun b h => by
                rcases h with h | h
                · rcases List.mem_append.mp h with h | h
                  · exact .inl (List.mem_of_mem_take h)
                  · rw [List.mem_singleton.mp h]; exact .inl (List.mem_of_getElem? h2)
                · exact .inr h
              have tl : (ι'.take S.length).cs.length = S.length := by
                show (ι'.cs.take S.length).length = S.length
                rw [List.length_take, w.len]; omega
              have pre : ∀ (k : Nat) (b : Addr), k < S.length → ι'.cs[k]? = some b → ((ι'.take S.length).add a).cs[k]? = some b := fun k b hk h => by
                show ((ι'.take S.length).cs ++ [a])[k]? = some b
                rw [List.getElem?_append_left (by rw [tl]; exact hk)]
                exact getElem?_take_some hk h
              have at' : ((ι'.take S.length).add a).cs[S.length]? = some a := by
                show ((ι'.take S.length).cs ++ [a])[S.length]? = some a
                rw [List.getElem?_append_right (by rw [tl]; exact Nat.le_refl _), tl, Nat.sub_self]; rfl
              have wc := w.cut S.length
              have sl : (S'.take S.length).length = S.length := by rw [List.length_take]; omega
              refine f ((ι'.take S.length).add a) H' v (e.shrink sub (fun k b hk h => pre k b (by rw [← w0.len]; exact hk) h) rfl) ?_ (relD_ref.mpr ⟨a, h1, at'⟩)
              refine ⟨?_, ?_, w.prv, fun b hb z => ?_, fun n x en => ?_, fun n x en => ?_⟩
              · show ((ι'.take S.length).cs ++ [a]).length = _
                rw [List.length_append, List.length_append, tl, sl]; rfl
              · show ((ι'.take S.length).cs ++ [a]).Nodup
                rw [List.nodup_append]
                exact ⟨wc.nd, (by simp), fun b hb c hc z => by rw [List.mem_singleton.mp hc] at z; exact na (z ▸ hb)⟩
              · have z : b ∈ (ι'.take S.length).cs ++ [a] := z
                rcases List.mem_append.mp z with z | z
                · exact wc.apt b hb z
                · rw [List.mem_singleton.mp z] at hb; exact nv hb
              · by_cases hn : n < S.length
                · rw [List.getElem?_append_left (by rw [sl]; exact hn)] at en
                  exact wc.bel n x en
                · rw [List.getElem?_append_right (by rw [sl]; omega), sl] at en
                  have h0 : n - S.length = 0 := by
                    have := (List.getElem?_eq_some_iff.mp en).1
                    simp at this; omega
                  rw [h0] at en
                  have en : some (Cell.lst xs) = some x := en
                  have en := Option.some.inj en
                  subst en
                  have : n = S.length := by omega
                  rw [this]; exact hx
              · by_cases hn : n < S.length
                · rw [List.getElem?_append_left (by rw [sl]; exact hn)] at en
                  have e2 : S'[n]? = some x := by
                    rw [List.getElem?_take, if_pos hn] at en
                    exact en
                  obtain ⟨b, j1, j2⟩ := w.cell n x e2
                  exact ⟨b, pre n b hn j1, j2.shrink sub pre (D.bels_mono (Nat.le_of_lt hn) _ (w.bel n x e2))⟩
                · rw [List.getElem?_append_right (by rw [sl]; omega), sl] at en
                  have h0 : n - S.length = 0 := by
                    have := (List.getElem?_eq_some_iff.mp en).1
                    simp at this; omega
                  rw [h0] at en
                  have en : some (Cell.lst xs) = some x := en
                  have en := Option.some.inj en
                  subst en
                  have : n = S.length := by omega
                  rw [this]
                  exact ⟨a, at', vs, k2, k3, k4.shrink sub pre _ hx⟩
          · rw [if_neg hx] at f; exact f.elim
        | _ => rw [hs] at f; exact f.elim
    | _ => exact f.elim

/-! ### the defs -/
structure FD where
  x : Str
  ps : List Str
  N : List Str
  st : Stmt
  sv : Sm
  body : CB sv
  frz : Bool
def startR (N : List Str) (ds : List D) : Ro := ds.map some ++ List.replicate (N.length - ds.length) none
def runF (N : List Str) (sv : Sm) (frz : Bool) (Φ : Ph) (ds : List D) : M D := fun S => match sv Φ (startR N ds) S with
  | .rt d S' => leave frz S.length d S'
  | .nx _ S' => leave frz S.length .non S'
  | .exc c fs S' => .exc c fs S'
  | _ => .bad
def phi (T : List FD) : Nat → Ph
  | 0 => fun _ _ => M.bad
  | k + 1 => fun i ds => match T[i]? with
    | some f => runF f.N f.sv f.frz (phi T k) ds
    | none => M.bad
def fnScB (N ps : List Str) (sc : Scope) : Bool := (match sc.kind with | .function => true | _ => false) && (!sc.isCoroutine && (!sc.isGenerator && (decide N.Nodup && (decide (N.take ps.length = ps) && ((ps.all fun x => match sc.names.lookup x with | some .local => true | some .cell => true | _ => false) && (sc.names.all fun y => match y.2 with | .free => false | _ => true))))))
theorem fnScB_ok {N ps : List Str} {sc : Scope} (h : fnScB N ps sc = true) : FnScope N ps sc := by
  obtain ⟨h1, h⟩ := ba h
  obtain ⟨h2, h⟩ := ba h
  obtain ⟨h3, h⟩ := ba h
  obtain ⟨h4, h⟩ := ba h
  obtain ⟨h5, h⟩ := ba h
  obtain ⟨h6, h7⟩ := ba h
  refine ⟨?_, by simpa using h2, by simpa using h3, of_decide_eq_true h4, of_decide_eq_true h5, fun x hx => ?_, fun y hy e => ?_⟩
  · split at h1 <;> first | assumption | cases h1
  · have := List.all_eq_true.mp h6 x hx
    split at this <;> first | exact .inl (by assumption) | exact .inr (by assumption) | cases this
  · have := List.all_eq_true.mp h7 y hy
    rw [e] at this
    cases this
def lxOf (I : Info) (N : List Str) (sc : Scope) : Lx := ⟨I, N, sc, fun _ => true⟩
def chkF (I : Info) (f : FD) : Bool := fnScB f.N f.ps (defScope f.st) && f.body.chk (lxOf I f.N (defScope f.st))
/-- a def's facts -/
structure FnFa (K : PySem.W.Frag) (mg : Str → Option Value) (kw : List (Nat × List Str)) (x : Str) (ps : List Str) (st : Stmt) (a : Addr) (fd : FuncData) : Prop where
  mg : mg x = some (.ref a)
  F : FunD K x x (defArgs st) (defBody st) (defScope st) [] [] a fd
  b : Binds K fd ps []
  kb : ∀ q ∈ kw, KBn K fd ps q.1 q.2 (arr ps q.1 q.2) (arr ps q.1 q.2)
theorem RelDs.start {K : PySem.W.Frag} {ι : Ix} {H : Hp} {N : List Str} {ds : List D} {vs : List V} (r : RelDs K ι H ds vs) : EnvOk K ι H (startR N ds) (start N vs) := by
  unfold startR L2.start
  refine ⟨by rw [List.length_append, List.length_append, List.length_map, List.length_map, List.length_replicate, List.length_replicate, r.length], fun i d e => ?_⟩
  by_cases hi : i < ds.length
  · rw [List.getElem?_append_left (by simpa using hi), List.getElem?_map] at e
    cases h : ds[i]? with
    | none => rw [h] at e; cases e
    | some d' =>
      rw [h] at e; cases e
      obtain ⟨v, h1, h2⟩ := r.get h
      exact ⟨v, by rw [List.getElem?_append_left (by rw [List.length_map, r.length]; exact hi), List.getElem?_map, h1]; rfl, h2⟩
  · rw [List.getElem?_append_right (by simpa using hi), List.getElem?_replicate] at e
    split at e <;> cases e
section
variable {P : Program} {w : PySem.World} {K : PySem.W.Frag} {mg : Str → Option Value} {base : Heap}
theorem all_ok (T : List FD) (I : Info) (hfns : I.fns = T.map fun f => (f.x, f.ps)) (hchk : T.all (chkF I) = true) (hb : ∀ f ∈ T, defBody f.st = f.body.py)
    (facts : ∀ (i : Nat) (f : FD), T[i]? = some f → ∃ a fd, FnFa K mg (I.kwOf i) f.x f.ps f.st a fd) (hfre : ∀ x ∈ I.fre, mg x = none) (hnums : ∀ p ∈ I.nums, ∃ t, mg p.1 = some (.int p.2 t)) (htyp : ∀ p ∈ I.typs, mg p.1 = some (.type p.2)) :
    ∀ (k i : Nat) (f : FD) (a : Addr) (fd : FuncData), T[i]? = some f → FunD K f.x f.x (defArgs f.st) (defBody f.st) (defScope f.st) [] [] a fd → FnOk P w K mg base CX0 k a fd f.ps (spOf K f.ps.length (phi T k i)) := by
  intro k
  induction k with
  | zero =>
    intro i f a fd hf F
    refine ⟨fun vs H Q E h => h.1, fun A outer s H args us vs Q E hr e0 hb hv hs => ?_⟩
    obtain ⟨_, ds, S, ι, w, r, f⟩ := hs
    exact f.elim
  | succ k ih =>
    intro i f a fd hf F
    have hm : f ∈ T := List.mem_of_getElem? hf
    obtain ⟨c1, c2⟩ := ba (List.all_eq_true.mp hchk f hm)
    refine F.ok (fnScB_ok c1) (fun vs H Q E h => h.1) fun cdv A outer s H vs Q E hr h => ⟨tSv K (f.sv (phi T k)), ?_, ?_⟩
    · rw [hb f hm]
      refine PSs.nox (f.body.ok (lxOf I f.N (defScope f.st)) (phi T k) _ ⟨rfl, rfl, fun x => rfl, (fnScB_ok c1).nd, rfl, ⟨k, hr, fun j x ps e => ?_⟩, hfre, hnums, htyp, PassesOwn.never⟩ c2)
      have e : I.fns[j]? = some (x, ps) := e
      rw [hfns, List.getElem?_map] at e
      cases hj : T[j]? with
      | none => rw [hj] at e; cases e
      | some g =>
        rw [hj] at e; cases e
        obtain ⟨b, gd, fa⟩ := facts j g hj
        exact ⟨b, gd, fa.mg, fa.F.kp, fa.b, fa.kb, ih j g b gd hj fa.F⟩
    · obtain ⟨hl, ds, S, ι, wd, r, fin⟩ := h
      refine ⟨startR f.N ds, S, ι, wd, r.start, ?_⟩
      have fin : Fin K (RelD K) ι H Q (runF f.N f.sv f.frz (phi T k) ds S) := by
        have e : phi T (k + 1) i ds = runF f.N f.sv f.frz (phi T k) ds := by
          show (match T[i]? with | some f => runF f.N f.sv f.frz (phi T k) ds | none => M.bad) = _
          rw [hf]
        rw [e] at fin; exact fin
      unfold runF at fin
      show Post K _ ι H (f.sv (phi T k) (startR f.N ds) S)
      cases hr : f.sv (phi T k) (startR f.N ds) S with
      | rt d S' =>
        simp only [hr] at fin
        exact fun ι' H' v e w' r' => leave_ok fin wd e w' r'
      | nx ρ S' =>
        simp only [hr] at fin
        exact fun ι' H' σ' e w' r' => leave_ok fin wd e w' (relD_non.mpr rfl)
      | bk _ _ => simp only [hr] at fin; exact fin.elim
      | ct _ _ => simp only [hr] at fin; exact fin.elim
      | exc _ _ _ => simp only [hr] at fin; exact fin.elim
      | bad => simp only [hr] at fin; exact fin.elim
end
/-! ### keywords -/
theorem Vals.arr {vs zs : List V} {us ws : List Value} (h : Vals vs us) (t : Vals zs ws) (ps : List Str) (n : Nat) (ks : List Str) : Vals (G.arr ps n ks vs zs) (G.arr ps n ks us ws) := by
  unfold G.arr
  have ap : ∀ {a : List V} {b : List Value} {c : List V} {d : List Value}, Vals a b → Vals c d → Vals (a ++ c) (b ++ d) := by
    intro a b c d h1 h2
    induction h1 with
    | nil => exact h2
    | cons r _ ih => exact .cons r ih
  refine ap h ?_
  have look : ∀ (ks : List Str) {es : List V} {us : List Value}, Vals es us → ∀ p : Str, (((ks.zip es).lookup p) = none ∧ ((ks.zip us).lookup p) = none) ∨ ∃ d v, ((ks.zip es).lookup p) = some d ∧ ((ks.zip us).lookup p) = some v ∧ RelV d v := by
    intro ks
    induction ks with
    | nil => intro es us _ p; exact .inl ⟨rfl, rfl⟩
    | cons k ks ih =>
      intro es us r p
      cases r with
      | nil => exact .inl ⟨rfl, rfl⟩
      | cons r1 r2 =>
        rw [List.zip_cons_cons, List.zip_cons_cons, List.lookup_cons, List.lookup_cons]
        cases hb : p == k with
        | true => exact .inr ⟨_, _, rfl, rfl, r1⟩
        | false => exact ih r2 p
  generalize ps.drop n = l
  induction l with
  | nil => exact .nil
  | cons p l ih =>
    rw [List.filterMap_cons, List.filterMap_cons]
    rcases look ks t p with ⟨a, b⟩ | ⟨d, v, a, b, r⟩
    · rw [a, b]; exact ih
    · rw [a, b]; exact .cons r ih
theorem FunD.kbN {K : PySem.W.Frag} {x qual : Str} {params : Arguments} {body : List Stmt} {scope : Scope} {f : Addr} {fd : FuncData} {ps : List Str} (F : FunD K x qual params body scope [] [] f fd) (n : Nat) (ks : List Str)
    (h : ∀ (kV doc pm : Value) (an : Option Addr) (cdv ct : Value) (us ws : List Value), us.length = n → ws.length = ks.length → bindArgs (PySem.W.fnOf x qual params body scope .none kV doc pm an cdv ct) ⟨us, ks.zip ws⟩ = pure (ps.zip (arr ps n ks us ws))) :
    KBn K fd ps n ks (arr ps n ks) (arr ps n ks) := by
  obtain ⟨oc, od, dV, kV, doc, pm, an, cdv, ct, osl, rfl, lk, hcd, hD, hK⟩ := F.ex
  rcases hD with ⟨_, rfl⟩ | ⟨e, _⟩
  · exact ⟨fun s us ws X l1 l2 => .of_eq (h kV doc pm an cdv ct us ws l1 l2), fun r t => Vals.arr r t ps n ks⟩
  · exact absurd rfl e
/-! ### the law's end -/
/-- the script -/
def rolI (ns : List Int) : D := .rol (ns.map D.int)
theorem script_ok {K : PySem.W.Frag} {H : Hp} {a : Addr} {ns : List Int} {n : Nat} (hl : ns.length ≤ n) (hn : n ≤ sizeLine) (hO : Only H) (hS : SqL K H a (ns.map V.int)) : RelD K ⟨[], []⟩ H (rolI ns) (.ref a) := by
  refine relD_rol.mpr ⟨a, ns.map V.int, rfl, ?_, by rw [List.length_map]; omega, relD_intl ns⟩
  rcases hS with (h | ⟨o, h⟩) | h
  · rcases hO a with z | ⟨o, xs, z⟩
    · rw [h] at z; cases z
    · rw [h] at z; cases z
  · exact .inl ⟨o, h⟩
  · obtain ⟨o, its, m, h1, h2, h3, h4, h5, h6⟩ := h
    exact .inr ⟨o, its, m, h1, h2, h3, h4, h5, h6⟩
theorem World.none {K : PySem.W.Frag} {H : Hp} : World K ⟨[], []⟩ H [] :=
  ⟨rfl, List.nodup_nil, fun a h => (by cases h), fun a h => (by cases h), fun n c h => (by simp at h), fun n c h => (by simp at h)⟩
/-- the law's answer is True -/
theorem law_sp {K : PySem.W.Frag} {H : Hp} {a : Addr} {ns : List Int} {n : Nat} {φ : List D → M D} (hl : ns.length ≤ n) (hn : n ≤ sizeLine) (hO : Only H) (hS : SqL K H a (ns.map V.int)) (h : ∃ S, φ [rolI ns] [] = .ok (.bl true) S) :
    spOf K 1 φ [.ref a] H (fun v _ => v = .bl true) fun _ _ _ => False := by
  obtain ⟨S, h⟩ := h
  refine ⟨rfl, [rolI ns], [], ⟨[], []⟩, World.none, .cons (script_ok hl hn hO hS) .nil, ?_⟩
  rw [h]
  exact fun ι' H' v e w r => relD_bl.mp r
end G
end

section
set_option Elab.async false
set_option linter.all false
set_option maxRecDepth 100000
namespace G
open PySem PySem.Spec PyProof.Rows L2
/-! ### list(range(..)), tuple(range(..)), {} -/
def tTupRgF (te : L2.St → Hp → (Int → Int → Hp → Prop) → Prop) : TE := fun σ H Q => te σ H fun a b H1 => RgOk a b ∧ NewT H1 Q (rgV a b)
theorem pe_tupRgF {X : Cx} {e : Expr} {te : L2.St → Hp → (Int → Int → Hp → Prop) → Prop} {p pos : Pos} (hc : X.calm = true) (hg : Gl X "tuple") (hm : X.mg "tuple" = none) (he : PRg X e te) (na : starEach [e] X.env = (false, eval e X.env) :: starEach [] X.env) : PE X (.Call (.Name "tuple" p) [e] [] pos) (tTupRgF te) := by
  refine ⟨fun pins s σ H Q I h => ?_⟩
  refine Call_ (ld_blt I hg hm boot_tuple (PyProof.Rows.callWith_type1 (args_cons (thn (he pins s σ H _ I h) fun x s1 ⟨r, a, b, t, u, v, H1, ex, hr, I1, ok, q⟩ => args_nil ?_) na) na))
  subst ex
  obtain ⟨b1, b2, b3, b4, b5⟩ := ok
  refine call_tuple_range (n := (b - a).toNat) (I1.ok.hd hc) hr (small_one b1 b2 b3 b4) (rangeSize_nat a b) b5 fun h' tk acc hk hi => ?_
  have I2 : Inv X pins σ H1 { s1 with heap := h', toks := tk } := I1.kept hk
  have e : (tObj acc.toList) = { cls := .type "tuple", data := .seq acc } := by unfold tObj; rw [Array.toArray_toList]
  rw [← e]
  exact tLaid (s := { s1 with heap := h', toks := tk }) (h' := h') (t' := tk) I2 (fun _ _ z => z) (Nat.le_refl _) (vals_rg hi) (by rw [rgV_length, sizeLine_eq]; omega) q
theorem rgV_rel {K : PySem.W.Frag} {ι : Ix} {H : Hp} (a b : Int) : RelDs K ι H (rngD a (b - a).toNat) (rgV a b) := by
  unfold rngD rgV
  exact RelDs.map (f := fun i : Nat => D.int (a + (i : Nat))) (g := fun i : Nat => V.int (a + (i : Nat))) (fun i => relD_int.mpr rfl) _
def rgB (a b : Int) : Bool := decide (-(2 ^ 62) ≤ a) && (decide (a < 2 ^ 62) && (decide (-(2 ^ 62) ≤ b) && (decide (b < 2 ^ 62) && decide ((b - a).toNat ≤ 16777216))))
theorem rgB_ok {a b : Int} (h : rgB a b = true) : RgOk a b := by
  unfold rgB at h
  simp only [Bool.and_eq_true, decide_eq_true_eq] at h
  exact ⟨h.1, h.2.1, h.2.2.1, h.2.2.2.1, h.2.2.2.2⟩
def fRg1 (k : Int → Int → M D) (ds : List D) : M D := match ds with
  | [.int n] => k 0 n
  | _ => M.bad
def fRg2 (k : Int → Int → M D) (ds : List D) : M D := match ds with
  | [.int a, .int b] => k a b
  | _ => M.bad
def kLst (m : Bool) (a b : Int) : M D := if rgB a b then mkLst m (rngD a (b - a).toNat) else M.bad
def kTupR (a b : Int) : M D := if rgB a b then M.ok (.tup (rngD a (b - a).toNat)) else M.bad
theorem kLst_ok {K : PySem.W.Frag} {ι : Ix} {H : Hp} {S : Store} {Q : VK} {m : Bool} {a b : Int} (w : World K ι H S) (f : Fin K (RelD K) ι H Q (kLst m a b S)) : RgOk a b ∧ ∀ q, H q = none → Q (.ref q) (upd H q (.lst (rgV a b))) := by
  unfold kLst at f
  by_cases h : rgB a b = true
  · rw [if_pos h] at f
    have o := rgB_ok h
    exact ⟨o, fun q hq => f.mkNew w (rgV_rel a b) (by rw [rgV_length, sizeLine_eq]; exact o.2.2.2.2) q hq⟩
  · rw [if_neg h] at f; exact f.elim
theorem kTupR_ok {K : PySem.W.Frag} {ι : Ix} {H : Hp} {S : Store} {Q : VK} {a b : Int} (w : World K ι H S) (f : Fin K (RelD K) ι H Q (kTupR a b S)) : RgOk a b ∧ NewT H Q (rgV a b) := by
  unfold kTupR at f
  by_cases h : rgB a b = true
  · rw [if_pos h] at f
    have o := rgB_ok h
    exact ⟨o, Fin.tupNew (show Fin K (RelD K) ι H Q (.ok (.tup (rngD a (b - a).toNat)) S) from f) w (rgV_rel a b) (by rw [rgV_length, sizeLine_eq]; exact o.2.2.2.2)⟩
  · rw [if_neg h] at f; exact f.elim
theorem rg1_weak {K : PySem.W.Frag} {k : Int → Int → M D} {e : Ro → M D} {σ : L2.St} {H : Hp} {R : Int → Int → Hp → Prop} {Q : VK} (hk : ∀ a b S ι H, World K ι H S → Fin K (RelD K) ι H Q (k a b S) → R a b H)
    (h : tE K (fun ρ => (e ρ).bind fun d => fRg1 k [d]) σ H Q) : tRg1 (tE K e) σ H R := by
  obtain ⟨ρ, S, ι, w, en, f⟩ := h
  refine ⟨ρ, S, ι, w, en, Fin.bind f fun d S1 ι1 H1 v e1 w1 r1 f1 => ?_⟩
  cases d with
  | int n => exact ⟨n, relD_int.mp r1, hk 0 n S1 ι1 H1 w1 f1⟩
  | _ => exact f1.elim
theorem rg2_weak {K : PySem.W.Frag} {k : Int → Int → M D} {e e' : Ro → M D} {σ : L2.St} {H : Hp} {R : Int → Int → Hp → Prop} {Q : VK} (hk : ∀ a b S ι H, World K ι H S → Fin K (RelD K) ι H Q (k a b S) → R a b H)
    (h : tE K (fun ρ => (e ρ).bind fun d => (e' ρ).bind fun d' => fRg2 k [d, d']) σ H Q) : tRg2 (tE K e) (tE K e') σ H R := by
  obtain ⟨ρ, S, ι, w, en, f⟩ := h
  refine ⟨ρ, S, ι, w, en, Fin.bind f fun d S1 ι1 H1 v e1 w1 r1 f1 => ⟨ρ, S1, ι1, w1, en.mono e1, Fin.bind f1 fun d2 S2 ι2 H2 v2 e2 w2 r2 f2 => ?_⟩⟩
  cases d with
  | int n =>
    cases d2 with
    | int n2 => exact ⟨n, n2, relD_int.mp r1, relD_int.mp r2, hk n n2 S2 ι2 H2 w2 f2⟩
    | _ => exact f2.elim
  | _ => cases d2 <;> exact f2.elim
def eRg1 (k : Int → Int → M D) (a : Ev) : Ev := fun Φ ρ => (a Φ ρ).bind fun d => fRg1 k [d]
def eRg2 (k : Int → Int → M D) (a b : Ev) : Ev := fun Φ ρ => (a Φ ρ).bind fun d => (b Φ ρ).bind fun d' => fRg2 k [d, d']
def cListRg1 (m : Bool) {a : Ev} (x : CE a) (p pr p2 pos : Pos) : CE (eRg1 (kLst m) a) where
  py := .Call (.Name "list" p) [.Call (.Name "range" pr) [x.py] [] p2] [] pos
  chk := fun L => bltB L "list" && (bltB L "range" && x.chk L)
  pl := rfl
  ok := fun L Φ X g q => by
    obtain ⟨q1, q2⟩ := ba q
    obtain ⟨q2, q3⟩ := ba q2
    obtain ⟨g1, g2, _, _⟩ := bltB_ok g q1
    obtain ⟨k1, k2, _, _⟩ := bltB_ok g q2
    exact PE.weak (pe_listRg g.calm g1 g2 (prg_1 k1 k2 (x.ok L Φ X g q3) (starEach_pl x.pl _ _)) (starEach_pl rfl _ _)) fun σ H Q h => rg1_weak (fun a b S ι H w f => kLst_ok w f) h
def cListRg2 (m : Bool) {a b : Ev} (x : CE a) (y : CE b) (p pr p2 pos : Pos) : CE (eRg2 (kLst m) a b) where
  py := .Call (.Name "list" p) [.Call (.Name "range" pr) [x.py, y.py] [] p2] [] pos
  chk := fun L => bltB L "list" && (bltB L "range" && (x.chk L && y.chk L))
  pl := rfl
  ok := fun L Φ X g q => by
    obtain ⟨q1, q2⟩ := ba q
    obtain ⟨q2, q3⟩ := ba q2
    obtain ⟨q3, q4⟩ := ba q3
    obtain ⟨g1, g2, _, _⟩ := bltB_ok g q1
    obtain ⟨k1, k2, _, _⟩ := bltB_ok g q2
    exact PE.weak (pe_listRg g.calm g1 g2 (prg_2 k1 k2 (x.ok L Φ X g q3) (y.ok L Φ X g q4) (starEach_pl x.pl _ _) (starEach_pl y.pl _ _) (plain_any (es := [y.py]) (by simp [y.pl]) _ _)) (starEach_pl rfl _ _)) fun σ H Q h => rg2_weak (fun a b S ι H w f => kLst_ok w f) h
def cTupRg1 {a : Ev} (x : CE a) (p pr p2 pos : Pos) : CE (eRg1 kTupR a) where
  py := .Call (.Name "tuple" p) [.Call (.Name "range" pr) [x.py] [] p2] [] pos
  chk := fun L => bltB L "tuple" && (bltB L "range" && x.chk L)
  pl := rfl
  ok := fun L Φ X g q => by
    obtain ⟨q1, q2⟩ := ba q
    obtain ⟨q2, q3⟩ := ba q2
    obtain ⟨g1, g2, _, _⟩ := bltB_ok g q1
    obtain ⟨k1, k2, _, _⟩ := bltB_ok g q2
    exact PE.weak (pe_tupRgF g.calm g1 g2 (prg_1 k1 k2 (x.ok L Φ X g q3) (starEach_pl x.pl _ _)) (starEach_pl rfl _ _)) fun σ H Q h => rg1_weak (fun a b S ι H w f => kTupR_ok w f) h
def cTupRg2 {a b : Ev} (x : CE a) (y : CE b) (p pr p2 pos : Pos) : CE (eRg2 kTupR a b) where
  py := .Call (.Name "tuple" p) [.Call (.Name "range" pr) [x.py, y.py] [] p2] [] pos
  chk := fun L => bltB L "tuple" && (bltB L "range" && (x.chk L && y.chk L))
  pl := rfl
  ok := fun L Φ X g q => by
    obtain ⟨q1, q2⟩ := ba q
    obtain ⟨q2, q3⟩ := ba q2
    obtain ⟨q3, q4⟩ := ba q3
    obtain ⟨g1, g2, _, _⟩ := bltB_ok g q1
    obtain ⟨k1, k2, _, _⟩ := bltB_ok g q2
    exact PE.weak (pe_tupRgF g.calm g1 g2 (prg_2 k1 k2 (x.ok L Φ X g q3) (y.ok L Φ X g q4) (starEach_pl x.pl _ _) (starEach_pl y.pl _ _) (plain_any (es := [y.py]) (by simp [y.pl]) _ _)) (starEach_pl rfl _ _)) fun σ H Q h => rg2_weak (fun a b S ι H w f => kTupR_ok w f) h
/-- {} that is not written -/
def cDct0 (p : Pos) : CE (eC (.dct [] [])) where
  py := .Dict [] [] p
  chk := fun _ => true
  pl := rfl
  ok := fun L Φ X g q => PE.weak pe_dnewK fun σ H Q ⟨ρ, S, ι, w, e, f⟩ => fun p hp => (show Fin X.K (RelD X.K) ι H Q (.ok (.dct [] []) S) from f) ι _ _ (.fresh hp) (w.fresh hp) (relD_dct.mpr ⟨p, [], rfl, upd_same, w.notin hp, rfl, .nil⟩)
end G
end

section
set_option Elab.async false
set_option linter.all false
set_option maxRecDepth 100000
namespace G
open PySem PySem.Spec PyProof.Rows L2
/-! ### the head's facts, of all defs -/
def dOf (f : FD) : He.DefD := ⟨(f.x, none), f.x, f.x, defArgs f.st, defBody f.st, defScope f.st, [], []⟩
def fnOf (T : List FD) : List He.DefD := T.map dOf
def faOf (I : Info) : List He.Fa := I.fns.map (fun p => .glo p.1) ++ (I.fre.map .free ++ I.nums.map fun p => .int p.1 p.2)
/-- how a def's parameters are bound -/
structure BindsF (I : Info) (i : Nat) (f : FD) : Prop where
  b : ∀ (K : PySem.W.Frag) (a : Addr) (fd : FuncData), FunD K f.x f.x (defArgs f.st) (defBody f.st) (defScope f.st) [] [] a fd → Binds K fd f.ps []
  kb : ∀ q ∈ I.kwOf i, ∀ (K : PySem.W.Frag) (a : Addr) (fd : FuncData), FunD K f.x f.x (defArgs f.st) (defBody f.st) (defScope f.st) [] [] a fd → KBn K fd f.ps q.1 q.2 (arr f.ps q.1 q.2) (arr f.ps q.1 q.2)
def BLs (I : Info) : Nat → List FD → Prop
  | _, [] => True
  | n, f :: r => BindsF I n f ∧ BLs I (n + 1) r
theorem BLs.get {I : Info} : ∀ {l : List FD} {n i : Nat} {f : FD}, BLs I n l → l[i]? = some f → BindsF I (n + i) f
  | [], n, i, f, _, h => by simp at h
  | g :: r, n, 0, f, b, h => by
    simp at h
    subst h
    exact b.1
  | g :: r, n, i + 1, f, b, h => by
    have := BLs.get (n := n + 1) (i := i) (f := f) b.2 (by simpa using h)
    rw [show n + (i + 1) = n + 1 + i by omega]
    exact this
section
variable {K : PySem.W.Frag} {h : Heap} {mg : Str → Option Value} {T : List FD} {I : Info}
theorem saysDef {fa : List He.Fa} {fn : List He.DefD} (c : He.SaysD fa fn K) {d : He.DefD} (h : d ∈ fn) : ∃ fd, FunD K d.name d.qual d.params d.body d.scope (d.dvs K) (d.kws K) (He.fAd K d.at_) fd := by
  obtain ⟨i, hi, e⟩ := List.mem_iff_getElem.mp h
  exact c.def_ i (d := d) (by rw [List.getElem?_eq_getElem hi, e])
theorem saysFact {fa : List He.Fa} {fn : List He.DefD} (c : He.SaysD fa fn K) {f : He.Fa} (h : f ∈ fa) : f.ok K = true := by
  obtain ⟨i, hi, e⟩ := List.mem_iff_getElem.mp h
  exact c.fact i (f := f) (by rw [List.getElem?_eq_getElem hi, e])
theorem facts_of (c : He.SaysD (faOf I) (fnOf T) K) (X : K.In h) (G : h.Ns mainGlobals mg) (hfns : I.fns = T.map fun f => (f.x, f.ps)) (b : BLs I 0 T) (i : Nat) (f : FD) (hf : T[i]? = some f) : ∃ a fd, FnFa K mg (I.kwOf i) f.x f.ps f.st a fd := by
  have hm : f ∈ T := List.mem_of_getElem? hf
  obtain ⟨fd, F⟩ := saysDef c (d := dOf f) (List.mem_map_of_mem hm)
  have g : mg f.x = some (.ref (He.ga K f.x)) := He.glo_ok X G (saysFact c (f := .glo f.x) (List.mem_append_left _ (by
    rw [hfns, List.map_map]
    exact List.mem_map.mpr ⟨f, hm, rfl⟩)))
  have bf := b.get hf
  rw [Nat.zero_add] at bf
  exact ⟨He.ga K f.x, fd, g, F, bf.b K _ fd F, fun q hq => bf.kb q hq K _ fd F⟩
/-- a name of a type that the program brings in -/
def tyB (K : PySem.W.Frag) (p : Str × String) : Bool := decide (PySem.W.nsIn K mainGlobals p.1 = some (some (.type p.2)))
theorem ty_ok (X : K.In h) (G : h.Ns mainGlobals mg) {p : Str × String} (c : tyB K p = true) : mg p.1 = some (.type p.2) := PySem.W.mg_of X G (of_decide_eq_true c)
abbrev AlT : Type := Bool × He.AlD
def obsT (ts : List (Str × String)) (fa : List He.Fa) (fn : List He.DefD) (K : PySem.W.Frag) : AlT := (ts.all (tyB K), He.obsD fa fn K)
def saysT (ts : List (Str × String)) (fa : List He.Fa) (fn : List He.DefD) (K : PySem.W.Frag) : Prop := obsT ts fa fn K = (true, He.valD fn)
def obsTG (n : Nat) (ts : List (Str × String)) (fa : List He.Fa) (fn : List He.DefD) (g : Addr → Option Obj) : AlT := obsT ts fa fn (He.frG g (He.asD g n))
def hookT (n : Nat) (ts : List (Str × String)) (fa : List He.Fa) (fn : List He.DefD) : PySem.W.Hook :=
  { α := AlT, obs := fun st => obsTG n ts fa fn st.heap.get?, val := fun _ => (true, He.valD fn),
    says := fun _ hp => ∃ F : PySem.W.Frag, F.In hp ∧ saysT ts fa fn F, of := fun _ _ q => ⟨_, He.frG_in, q⟩,
    keeps := fun _ _ _ ⟨F, hF, cc⟩ kp => ⟨F, PySem.W.Frag.In.keeps hF kp, cc⟩ }
theorem obsTG_eq {n : Nat} {ts : List (Str × String)} {fa : List He.Fa} {fn : List He.DefD} {g : Addr → Option Obj} {st : Shared} (q : ∀ a, g a = st.heap.get? a) : obsTG n ts fa fn g = (hookT n ts fa fn).obs st := by
  have q2 : g = st.heap.get? := funext q
  rw [q2] <;> rfl
theorem saysT_d {ts : List (Str × String)} {fa : List He.Fa} {fn : List He.DefD} (c : saysT ts fa fn K) : He.SaysD fa fn K := congrArg (fun z : AlT => z.2) c
theorem saysT_t {ts : List (Str × String)} {fa : List He.Fa} {fn : List He.DefD} (c : saysT ts fa fn K) : ∀ p ∈ ts, tyB K p = true := List.all_eq_true.mp (congrArg (fun z : AlT => z.1) c)
/-- what the law's walk wants -/
theorem law_all {P : Program} {w : PySem.World} {n k j : Nat} {fl : FD} {x : Str} {fa : Addr} (c : He.SaysD (faOf I) (fnOf T) K) (X : K.In h) (G : h.Ns mainGlobals mg) (htyp : ∀ p ∈ I.typs, mg p.1 = some (.type p.2)) (hfns : I.fns = T.map fun f => (f.x, f.ps)) (hchk : T.all (chkF I) = true) (hb : ∀ f ∈ T, defBody f.st = f.body.py) (b : BLs I 0 T)
    (hj : T[j]? = some fl) (hps : fl.ps = [x]) (hmg : mg fl.x = some (.ref fa)) (hn : n ≤ sizeLine)
    (hbd : ∀ (K : PySem.W.Frag) (a : Addr) (fd : FuncData), FunD K fl.x fl.x (defArgs fl.st) (defBody fl.st) (defScope fl.st) [] [] a fd → ∀ (s : Shared) (u : Value), BindsTo s fd ⟨[u], []⟩ [(x, u)])
    (main : ∀ ns : List Int, ns.length ≤ n → ∃ S, phi T k j [rolI ns] [] = .ok (.bl true) S) :
    ∃ (K : PySem.W.Frag) (fd : FuncData) (sp : Sp), K.In h ∧ (∀ (s : Shared) (u : Value), BindsTo s fd ⟨[u], []⟩ [(x, u)]) ∧
        (∀ (H : Hp) (a : Addr) (ns : List Int), ns.length ≤ n → Only H → SqL K H a (ns.map V.int) → sp [.ref a] H (fun v _ => v = .bl true) fun _ _ _ => False) ∧
        ∀ base : Heap, K.In base → base.Ns mainGlobals mg → FnOk P w K mg base CX0 k fa fd [x] sp := by
  obtain ⟨a, fd, ff⟩ := facts_of c X G hfns b j fl hj
  have e := ff.mg.symm.trans hmg
  cases e
  refine ⟨K, fd, spOf K 1 (phi T k j), X, hbd K _ fd ff.F, fun H a ns hl hO hS => law_sp hl hn hO hS (main ns hl), fun base hKb hGb => ?_⟩
  have := all_ok (P := P) (w := w) (base := base) T I hfns hchk hb (fun i f hf => facts_of c X G hfns b i f hf)
    (fun x hx => He.free_ok X G (saysFact c (f := .free x) (List.mem_append_right _ (List.mem_append_left _ (List.mem_map_of_mem hx)))))
    (fun p hp => He.int_ok X G (saysFact c (f := .int p.1 p.2) (List.mem_append_right _ (List.mem_append_right _ (List.mem_map.mpr ⟨p, hp, rfl⟩))))) htyp k j fl _ fd hj ff.F
  rw [hps] at this
  exact this
end
theorem arr_len02 {ps ks : List Str} (h : (arr (α := Nat) ps 0 ks [] [0, 0]).length = ps.length) : ∀ (us ws : List V), us.length = 0 → ws.length = ks.length → ks.length = 2 → (arr ps 0 ks us ws).length = ps.length := by
  intro us ws h1 h2 h3
  match us, ws, h1, (h2.trans h3) with
  | [], [a, b], _, _ =>
    unfold arr at h ⊢
    simp only [List.nil_append] at h ⊢
    rw [← h]
    have : ∀ p : Str, ((ks.zip [a, b]).lookup p).isSome = ((ks.zip [0, 0]).lookup p).isSome := by
      intro p
      match ks, h3 with
      | [k1, k2], _ =>
        simp only [List.zip_cons_cons, List.zip_nil_left, List.lookup_cons, List.lookup_nil]
        cases p == k1 <;> cases p == k2 <;> rfl
    generalize ps.drop 0 = l
    induction l with
    | nil => rfl
    | cons p l ih =>
      rw [List.filterMap_cons, List.filterMap_cons]
      have q := this p
      cases e1 : (ks.zip [a, b]).lookup p with
      | none =>
        rw [e1] at q
        cases e2 : (ks.zip [0, 0]).lookup p with
        | none => exact ih
        | some y => rw [e2] at q; cases q
      | some x =>
        rw [e1] at q
        cases e2 : (ks.zip [0, 0]).lookup p with
        | none => rw [e2] at q; cases q
        | some y => simp only [List.length_cons]; rw [ih]
end G
end

section
set_option Elab.async false
set_option linter.all false
set_option maxRecDepth 100000
namespace G
open PySem PySem.Spec PyProof.Rows L2
/-! ### (*xs, y) -/
def aStar (e : Ev) (r : Ph → Ro → M (List D)) : Ph → Ro → M (List D) := fun Φ ρ => (e Φ ρ).bind fun d S => match seqOf d S with
  | some xs => ((r Φ ρ).bind fun ds => M.ok (xs ++ ds)) S
  | none => .bad
def caStar {e : Ev} {r : Ph → Ro → M (List D)} (a : CE e) (b : CA r) (sp : Pos) : CA (aStar e r) where
  py := .Starred a.py sp :: b.py
  chk := fun L => a.chk L && b.chk L
  pl := false
  plOk := fun h => by cases h
  len := fun h => by cases h
  ok := fun L Φ X g q => by
    obtain ⟨q1, q2⟩ := ba q
    refine PA.weak (StX.pa_star (a.ok L Φ X g q1) (b.ok L Φ X g q2)) fun σ H Q ⟨ρ, S, ι, w, en, f⟩ => ⟨ρ, S, ι, w, en, Fin.bind f fun d S1 ι1 H1 v e1 w1 r1 f1 => ?_⟩
    cases hs : seqOf d S1 with
    | none => simp only [hs] at f1; exact f1.elim
    | some xs =>
      simp only [hs] at f1
      obtain ⟨p, vs, h1, h2, _, h4⟩ := seqOf_ok w1 r1 hs
      exact ⟨p, vs, h1, h2.symm, ρ, S1, ι1, w1, en.mono e1, Fin.bind f1 fun ds S2 ι2 H2 us e2 w2 r2 f2 => f2.now w2 ((h4.mono e2).append r2)⟩
/-! ### [x] * n, to be written -/
def oMulM (x y : D) : M D := fun S => match y with
  | .int k => match lstTr x S with
    | some xs => if -(2 ^ 63) ≤ k ∧ k < 2 ^ 63 ∧ xs.length * k.toNat ≤ 16777216 then mkLst true (List.replicate k.toNat xs).flatten S else .bad
    | none => .bad
  | _ => .bad
theorem co_mulM : COp (binaryOp .Mult) oMulM := ⟨fun X _ _ => OpR.imp op_rep fun vx vy H Q ⟨x, y, S, ι, w, r1, r2, f⟩ => by
  unfold oMulM at f
  split at f
  · rename_i k
    cases e1 : lstTr x S with
    | none => rw [e1] at f; exact f.elim
    | some xs =>
      rw [e1] at f
      by_cases hz : -(2 ^ 63) ≤ k ∧ k < 2 ^ 63 ∧ xs.length * k.toNat ≤ 16777216
      · have f : Fin X.K (RelD X.K) ι H Q (if -(2 ^ 63) ≤ k ∧ k < 2 ^ 63 ∧ xs.length * k.toNat ≤ 16777216 then mkLst true (List.replicate k.toNat xs).flatten S else .bad) := f
        rw [if_pos hz] at f
        obtain ⟨a, vs, h1, h2, h3, h4⟩ := lstTr_ok w r1 e1
        have hz' : vs.length * k.toNat ≤ sizeLine := by rw [h4.length, sizeLine_eq]; exact hz.2.2
        exact ⟨a, k, vs, h1, relD_int.mp r2, h2, hz.1, hz.2.1, hz', fun p hp => Fin.mkNew f w (h4.rep _) (by rw [len_rep]; exact hz') p hp⟩
      · have f : Fin X.K (RelD X.K) ι H Q (if -(2 ^ 63) ≤ k ∧ k < 2 ^ 63 ∧ xs.length * k.toNat ≤ 16777216 then mkLst true (List.replicate k.toNat xs).flatten S else .bad) := f
        rw [if_neg hz] at f
        exact f.elim
  · exact f.elim⟩
end G
end

section
set_option Elab.async false
set_option linter.all false
set_option maxRecDepth 100000
namespace PySem
open Sem (wp)
namespace F
theorem slot_perm_next : Slot "itertools.permutations" "__next__" "itertools.permutations.__next__" :=
  .of (owner := "itertools.permutations") (n := "__next__") (by rw [typeLookup_type, builtinLookup_eq_fast]; kernel_rfl) (by decide +kernel) (by decide +kernel) (by decide +kernel)
    (by first | exact .inl (by decide +kernel) | exact .inr (by decide +kernel)) (by rw [isSubtype_type]; kernel_rfl)
theorem slot_perm_iter : Slot "itertools.permutations" "__iter__" "itertools.permutations.__iter__" :=
  .of (owner := "itertools.permutations") (n := "__iter__") (by rw [typeLookup_type, builtinLookup_eq_fast]; kernel_rfl) (by decide +kernel) (by decide +kernel) (by decide +kernel)
    (by first | exact .inl (by decide +kernel) | exact .inr (by decide +kernel)) (by rw [isSubtype_type]; kernel_rfl)
theorem slot_perm_init : Slot "itertools.permutations" "__init__" "object.__init__" :=
  .of (owner := "object") (n := "__init__") (by rw [typeLookup_type, builtinLookup_eq_fast]; kernel_rfl) (by decide +kernel) (by decide +kernel) (by decide +kernel)
    (by first | exact .inl (by decide +kernel) | exact .inr (by decide +kernel)) (by rw [isSubtype_type]; kernel_rfl)
theorem entry_perm_next : entryFor table "itertools.permutations.__next__" = some Builtin.«itertools.permutations.__next__» := entryFor_of_tree (by kernel_rfl)
theorem entry_perm_new : entryFor table "itertools.permutations.__new__" = some Builtin.«itertools.permutations.__new__» := entryFor_of_tree (by kernel_rfl)
theorem entry_perm_iter : entryFor table "itertools.permutations.__iter__" = some Builtin.«dict_keyiterator.__iter__» :=
  entryFor_alias (id' := "dict_keyiterator.__iter__") (by kernel_rfl) (by first | rfl | decide +kernel | (unfold String.splitOn; simp +decide [String.splitOnAux])) (by decide +kernel) (by kernel_rfl)
theorem args_perm_next_1 (a : Value) : argsOk "itertools.permutations.__next__" ⟨[a], []⟩ := by
  unfold argsOk; kernel_rfl
theorem args_perm_iter_1 (a : Value) : argsOk "itertools.permutations.__iter__" ⟨[a], []⟩ := by
  unfold argsOk; kernel_rfl
theorem mro_perm : mroOf (.type "itertools.permutations") = pure [.type "itertools.permutations", .type "object"] := by rw [mroOf_type]; kernel_rfl
theorem lookup_perm_new : typeLookup (.type "itertools.permutations") "__new__" = pure (some (.builtin "itertools.permutations.__new__")) := by rw [typeLookup_type, builtinLookup_eq_fast]; kernel_rfl
theorem called_perm : TypeCalled "itertools.permutations" "itertools.permutations.__new__" "object.__init__" :=
  ⟨by decide +kernel, by decide +kernel, ⟨_, _, mro_perm⟩, madeBy_type mro_perm lookup_perm_new (by decide +kernel), by decide +kernel, by rw [isSubtype_type]; kernel_rfl, slot_perm_init⟩
theorem typeCall_perm_1 (a : Value) : checkTypeCall "itertools.permutations" ⟨[a], []⟩ = pure () := by kernel_rfl
theorem newCall_perm_1 (a : Value) : checkBuiltinCall "itertools.permutations.__new__" ⟨[.type "itertools.permutations", a], []⟩ = pure () := by kernel_rfl
theorem sub_perm : isSubtype (.type "itertools.permutations") (.type "itertools.permutations") = pure true := by rw [isSubtype_type]; kernel_rfl
theorem perm_noDict : typeHasDict (.type "itertools.permutations") = false := by kernel_rfl
end F
end PySem
end

section
set_option Elab.async false
set_option linter.all false
set_option maxRecDepth 100000
namespace PySem
open Sem (wp)
def nums (ns : List Nat) : List Value := ns.map fun k => rawInt ((k : Nat) : Int)
def permOb (T : Addr) (st r : Nat) (prev : Value) (ns : List Nat) : Obj := { cls := .type "itertools.permutations", dict := none, data := .fields (.ref T :: rawInt (st : Nat) :: rawInt (r : Nat) :: prev :: nums ns).toArray, slots := #[] }
/-- the order behind an order of places, by cycles -/
def nextPm (n : Nat) : Nat → List Nat → List Nat → Option (List Nat × List Nat)
  | 0, _, _ => none
  | i + 1, ix, cy => match cy.getD i 0 - 1 with
    | 0 => nextPm n i (ix.take i ++ ix.drop (i + 1) ++ [ix.getD i 0]) (cy.set i (n - i))
    | c + 1 => some ((ix.set i (ix.getD (n - (c + 1)) 0)).set (n - (c + 1)) (ix.getD i 0), cy.set i (c + 1))
theorem nextPm_eq {f : Nat → Nat → List Nat → List Nat → Option (List Nat × List Nat)} (h0 : ∀ n ix cy, f n 0 ix cy = none)
    (h1 : ∀ n i ix cy, f n (i + 1) ix cy = (let c := cy.getD i 0 - 1; if (c == 0) = true then f n i (ix.take i ++ ix.drop (i + 1) ++ [ix.getD i 0]) (cy.set i (n - i)) else some ((ix.set i (ix.getD (n - c) 0)).set (n - c) (ix.getD i 0), cy.set i c))) : ∀ i n ix cy, f n i ix cy = nextPm n i ix cy := by
  intro i
  induction i with
  | zero => intro n ix cy; rw [h0]; rfl
  | succ i ih =>
    intro n ix cy
    rw [h1]
    unfold nextPm
    cases hc : cy.getD i 0 - 1 with
    | zero => exact ih n _ _
    | succ c => rfl
section
variable {prog : Program} {w : World} {A : Around} {E : Value → Shared → Prop} {s : Shared}
theorem wp_pool {T : Addr} {oT : Obj} {its : Array Value} {k : Nat} {Q : Array Value → Shared → Prop} (ho : s.heap.get? T = some oT) (hd : oT.data = .seq its k) (h : Q its s) : wpAny (model prog w) A (Builtin.Itertools.itPoolItems (.ref T)) Q E s := by
  unfold Builtin.Itertools.itPoolItems
  exact wpAny_bind (wpAny_seqItems ho hd (wpAny_pure h))
theorem wp_intField {e : Addr} {o : Obj} {vs : Array Value} {i : Nat} {k : Int} {t : Tok} {Q : Int → Shared → Prop} (ho : s.heap.get? e = some o) (hd : o.data = .fields vs) (hi : vs[i]? = some (.int k t)) (h : Q k s) : wpAny (model prog w) A (Builtin.Itertools.itIntField (.ref e) i) Q E s := by
  unfold Builtin.Itertools.itIntField
  exact wpAny_bind (wpAny_field ho hd hi (wpAny_pure h))
theorem wp_numbers {e T : Addr} {st n : Nat} {prev : Value} {ns : List Nat} {Q : List Nat → Shared → Prop} (ho : s.heap.get? e = some (permOb T st n prev ns)) (h : Q ns s) : wpAny (model prog w) A (Builtin.Itertools.itNumbersFrom (.ref e) 4) Q E s := by
  unfold Builtin.Itertools.itNumbersFrom
  refine wpAny_bind (wpAny_load ho ?_)
  have en : ((nums ns).map fun x => match x with | .int n _ => n.toNat | _ => 0) = ns := by
    unfold nums
    rw [List.map_map]
    conv => rhs; rw [← List.map_id ns]
    exact List.map_congr_left fun x _ => by simp [Function.comp, rawInt]
  refine wpAny_pure ?_
  show Q ((nums ns).map fun x => match x with | .int n _ => n.toNat | _ => 0) s
  rw [en]; exact h
/-- an order is handed out -/
theorem perm_out {e T : Addr} {st n : Nat} {prev : Value} {ns : List Nat} {items : List Value} {Q : Fin → Shared → Prop} (ho : s.heap.get? e = some (permOb T st n prev ns)) (hz : items.length ≤ sizeLine)
    (hQ : ∀ h', h'.get? e = some (permOb T st n (.ref s.heap.objs.size) ns) → h'.get? s.heap.objs.size = some { cls := .type "tuple", data := .seq items.toArray } → (∀ b o, b ≠ e → s.heap.get? b = some o → h'.get? b = some o) → Q (.done (.ret (.ref s.heap.objs.size))) { s with heap := h' }) :
    wpAny (model prog w) A (do
        let t ← newTuple items
        let before ← field (Value.ref e) 3
        setField (Value.ref e) 3 t
        letGo [before] [t]
        ret t) Q E s := by
  have hlt : e < s.heap.objs.size := Heap.lt_size ho
  refine wpAny_bind (wpAny_newTuple ?_ hz)
  have ho1 : (s.heap.push { cls := .type "tuple", data := .seq items.toArray }).get? e = some (permOb T st n prev ns) := Heap.get?_push_of_some _ ho
  refine wpAny_bind (wpAny_field (s := { s with heap := s.heap.push { cls := .type "tuple", data := .seq items.toArray } }) ho1 rfl (x := prev) rfl ?_)
  refine wpAny_bind (wpAny_setField_rec (s := { s with heap := s.heap.push { cls := .type "tuple", data := .seq items.toArray } }) (k := 3) ho1 (by simp) fun h' he' sb => ?_)
  refine wpAny_bind (wpAny_letGo ?_)
  refine wpAny_pure (hQ h' ?_ ?_ ?_)
  · rw [he']
    unfold permOb
    congr 2
  · rw [sb.2 _ (Nat.ne_of_gt hlt)]; exact Heap.get?_push_size _ rfl
  · intro b o hb q
    rw [sb.2 _ hb]; exact Heap.get?_push_of_some _ q
theorem perm_first {e T : Addr} {n : Nat} {prev : Value} {ix cy : List Nat} {its : Array Value} {Q : Fin → Shared → Prop} (ho : s.heap.get? e = some (permOb T 0 n prev (ix ++ cy))) (hT : s.heap.IsTuple T its) (hn : its.size = n) (li : ix.length = n) (hz : n ≤ sizeLine)
    (hQ : ∀ h', h'.get? e = some (permOb T 1 n (.ref s.heap.objs.size) (ix ++ cy)) → h'.get? s.heap.objs.size = some { cls := .type "tuple", data := .seq (ix.map fun i => its.getD i .none).toArray } → (∀ b o, b ≠ e → s.heap.get? b = some o → h'.get? b = some o) → Q (.done (.ret (.ref s.heap.objs.size))) { s with heap := h' }) :
    wpAny (model prog w) A (Builtin.«itertools.permutations.__next__» ⟨[.ref e], []⟩) Q E s := by
  obtain ⟨oT, hoT, hcT, kT, hdT⟩ := hT
  unfold Builtin.«itertools.permutations.__next__»
  refine wpAny_bind (m := slotArgs "__next__" 0 _) (wpAny_pure ?_)
  refine wpAny_bind (wpAny_field ho rfl (x := .ref T) rfl ?_)
  refine wpAny_bind (wp_pool hoT hdT ?_)
  refine wpAny_bind (wp_intField ho rfl (k := (n : Nat)) (t := 0) rfl ?_)
  refine wpAny_bind (wp_numbers ho ?_)
  refine wpAny_bind (wp_intField ho rfl (k := (0 : Nat)) (t := 0) rfl ?_)
  refine wpAny_bind (wpAny_setField_rec (k := 1) ho (by simp) fun h1 he1 sb1 => ?_)
  have e1 : (List.take ((n : Nat) : Int).toNat (ix ++ cy)).map (fun i => its.getD i Value.none) = ix.map fun i => its.getD i .none := by
    rw [Int.toNat_natCast, List.take_left' li]
  have ho1 : h1.get? e = some (permOb T 1 n prev (ix ++ cy)) := by rw [he1]; rfl
  show wpAny (model prog w) A (do
        let t ← newTuple ((List.take ((n : Nat) : Int).toNat (ix ++ cy)).map fun i => its.getD i Value.none)
        let before ← field (Value.ref e) 3
        setField (Value.ref e) 3 t
        letGo [before] [t]
        ret t) _ _ _
  rw [e1]
  have hsz : h1.objs.size = s.heap.objs.size := sb1.1
  refine perm_out (s := { s with heap := h1 }) ho1 (by rw [List.length_map, li]; exact hz) fun h' q1 q2 q3 => ?_
  have q1 : h'.get? e = some (permOb T 1 n (.ref h1.objs.size) (ix ++ cy)) := q1
  have q2 : h'.get? h1.objs.size = some { cls := .type "tuple", data := .seq (ix.map fun i => its.getD i .none).toArray } := q2
  rw [hsz] at q1 q2
  show Q (.done (.ret (.ref h1.objs.size))) { s with heap := h' }
  rw [hsz]
  exact hQ h' q1 q2 fun b o hb q => q3 b o hb (by rw [sb1.2 _ hb]; exact q)
theorem perm_mid {e T : Addr} {n : Nat} {prev : Value} {ix cy ix' cy' : List Nat} {its : Array Value} {Q : Fin → Shared → Prop} (ho : s.heap.get? e = some (permOb T 1 n prev (ix ++ cy))) (hT : s.heap.IsTuple T its) (hn : its.size = n) (li : ix.length = n) (hz : n ≤ sizeLine)
    (hx : nextPm n n ix cy = some (ix', cy')) (li' : ix'.length = n) (lc' : cy'.length = n) (hk : n ≤ 1000)
    (hQ : ∀ h', h'.get? e = some (permOb T 1 n (.ref s.heap.objs.size) (ix' ++ cy')) → h'.get? s.heap.objs.size = some { cls := .type "tuple", data := .seq (ix'.map fun i => its.getD i .none).toArray } → (∀ b o, b ≠ e → s.heap.get? b = some o → h'.get? b = some o) → Q (.done (.ret (.ref s.heap.objs.size))) { s with heap := h' }) :
    wpAny (model prog w) A (Builtin.«itertools.permutations.__next__» ⟨[.ref e], []⟩) Q E s := by
  obtain ⟨oT, hoT, hcT, kT, hdT⟩ := hT
  unfold Builtin.«itertools.permutations.__next__»
  refine wpAny_bind (m := slotArgs "__next__" 0 _) (wpAny_pure ?_)
  refine wpAny_bind (wpAny_field ho rfl (x := .ref T) rfl ?_)
  refine wpAny_bind (wp_pool hoT hdT ?_)
  refine wpAny_bind (wp_intField ho rfl (k := (n : Nat)) (t := 0) rfl ?_)
  refine wpAny_bind (wp_numbers ho ?_)
  refine wpAny_bind (wp_intField ho rfl (k := (1 : Nat)) (t := 0) rfl ?_)
  have e0 : List.take its.size (ix ++ cy) = ix := by rw [hn]; exact List.take_left' li
  have e00 : List.drop its.size (ix ++ cy) = cy := by rw [hn]; exact List.drop_left' li
  have step : ∀ (g : Nat → Nat → List Nat → List Nat → Option (List Nat × List Nat)), (∀ i n ix cy, g n i ix cy = nextPm n i ix cy) → wpAny (model prog w) A (match g its.size ((n : Nat) : Int).toNat (List.take its.size (ix ++ cy)) (List.drop its.size (ix ++ cy)) with
      | some (indices, cycles) => do
        Builtin.Itertools.itSetNumbersFrom (Value.ref e) 4 (indices ++ cycles)
        (fun indices => do
              let t ← newTuple (List.map (fun i => its.getD i Value.none) (List.take ((n : Nat) : Int).toNat indices))
              let before ← field (Value.ref e) 3
              setField (Value.ref e) 3 t
              letGo [before] [t]
              ret t)
            indices
      | none => do
        setField (Value.ref e) 1 (rawInt 2)
        Builtin.Itertools.itStop) Q E s := by
    intro g hg
    rw [hg, e0, e00, Int.toNat_natCast, hn, hx]
    show wpAny (model prog w) A (Builtin.Itertools.itSetNumbersFrom (Value.ref e) 4 (ix' ++ cy') >>= _) Q E s
    unfold Builtin.Itertools.itSetNumbersFrom
    refine wpAny_bind (wpAny_updateFields ho rfl ?_ ?_)
    · have ho1 : (s.heap.update e (Obj.mapFields fun fs => fs.extract 0 4 ++ (List.map (fun (n : Nat) => rawInt (n : Int)) (ix' ++ cy')).toArray)).get? e = some (permOb T 1 n prev (ix' ++ cy')) := by
        rw [Heap.get?_update_self _ ho rfl]
        unfold permOb Obj.mapFields nums
        simp
      have sb := Heap.SameBut.update (a := e) (h := s.heap) (f := Obj.mapFields fun fs => fs.extract 0 4 ++ (List.map (fun (n : Nat) => rawInt (n : Int)) (ix' ++ cy')).toArray)
      show wpAny (model prog w) A (do
        let t ← newTuple ((List.take n ix').map fun i => its.getD i Value.none)
        let before ← field (Value.ref e) 3
        setField (Value.ref e) 3 t
        letGo [before] [t]
        ret t) _ _ _
      rw [List.take_of_length_le (by omega)]
      generalize hh : s.heap.update e _ = h1 at ho1 sb
      have hsz : h1.objs.size = s.heap.objs.size := sb.1
      refine perm_out (s := { s with heap := h1 }) ho1 (by rw [List.length_map, li']; exact hz) fun h' q1 q2 q3 => ?_
      have q1 : h'.get? e = some (permOb T 1 n (.ref h1.objs.size) (ix' ++ cy')) := q1
      have q2 : h'.get? h1.objs.size = some { cls := .type "tuple", data := .seq (ix'.map fun i => its.getD i .none).toArray } := q2
      rw [hsz] at q1 q2
      show Q (.done (.ret (.ref h1.objs.size))) { s with heap := h' }
      rw [hsz]
      exact hQ h' q1 q2 fun b o hb q => q3 b o hb (by rw [sb.2 _ hb]; exact q)
    · have : sizeLine = 16777216 := sizeLine_eq
      simp [permOb, nums, li', lc']
      omega
  exact step _ (nextPm_eq (fun _ _ _ => rfl) (fun _ _ _ _ => rfl))
theorem perm_end {e T : Addr} {n : Nat} {prev : Value} {ix cy : List Nat} {its : Array Value} {Q : Fin → Shared → Prop} (hh : A.handled = none) (ho : s.heap.get? e = some (permOb T 1 n prev (ix ++ cy))) (hT : s.heap.IsTuple T its) (hn : its.size = n) (li : ix.length = n)
    (hx : nextPm n n ix cy = none)
    (hQ : ∀ h' x o, (∀ b o, b ≠ e → s.heap.get? b = some o → h'.get? b = some o) → h'.get? x = some o → o.cls = .type "StopIteration" → E (.ref x) { s with heap := h' }) :
    wpAny (model prog w) A (Builtin.«itertools.permutations.__next__» ⟨[.ref e], []⟩) Q E s := by
  obtain ⟨oT, hoT, hcT, kT, hdT⟩ := hT
  unfold Builtin.«itertools.permutations.__next__»
  refine wpAny_bind (m := slotArgs "__next__" 0 _) (wpAny_pure ?_)
  refine wpAny_bind (wpAny_field ho rfl (x := .ref T) rfl ?_)
  refine wpAny_bind (wp_pool hoT hdT ?_)
  refine wpAny_bind (wp_intField ho rfl (k := (n : Nat)) (t := 0) rfl ?_)
  refine wpAny_bind (wp_numbers ho ?_)
  refine wpAny_bind (wp_intField ho rfl (k := (1 : Nat)) (t := 0) rfl ?_)
  have e0 : List.take its.size (ix ++ cy) = ix := by rw [hn]; exact List.take_left' li
  have e00 : List.drop its.size (ix ++ cy) = cy := by rw [hn]; exact List.drop_left' li
  have step : ∀ (g : Nat → Nat → List Nat → List Nat → Option (List Nat × List Nat)), (∀ i n ix cy, g n i ix cy = nextPm n i ix cy) → wpAny (model prog w) A (match g its.size ((n : Nat) : Int).toNat (List.take its.size (ix ++ cy)) (List.drop its.size (ix ++ cy)) with
      | some (indices, cycles) => do
        Builtin.Itertools.itSetNumbersFrom (Value.ref e) 4 (indices ++ cycles)
        (fun indices => do
              let t ← newTuple (List.map (fun i => its.getD i Value.none) (List.take ((n : Nat) : Int).toNat indices))
              let before ← field (Value.ref e) 3
              setField (Value.ref e) 3 t
              letGo [before] [t]
              ret t)
            indices
      | none => do
        setField (Value.ref e) 1 (rawInt 2)
        Builtin.Itertools.itStop) Q E s := by
    intro g hg
    rw [hg, e0, e00, Int.toNat_natCast, hn, hx]
    show wpAny (model prog w) A (setField (Value.ref e) 1 (rawInt 2) >>= _) Q E s
    refine wpAny_bind (wpAny_setField_rec (k := 1) ho (by simp) fun h1 he1 sb1 => ?_)
    unfold Builtin.Itertools.itStop
    exact DVw.raise_stop (s := { s with heap := h1 }) hh fun h' x o kp hx hc => hQ h' x o (fun b o hb q => kp b o (by rw [sb1.2 _ hb]; exact q)) hx hc
  exact step _ (nextPm_eq (fun _ _ _ => rfl) (fun _ _ _ _ => rfl))
end
end PySem
end

section
set_option Elab.async false
set_option linter.all false
set_option maxRecDepth 100000
namespace PySem
open Sem (wp)
open PySem.Spec PyProof.Rows L2
theorem bind_named (v : Value) : Builtin.Itertools.itBindNamed "permutations" ["iterable", "r"] 1 2 [v] [] = pure [some v, none] := by
  rfl
section
variable {prog : Program} {w : World} {A : Around} {E : Value → Shared → Prop} {s : Shared}
theorem wp_class {v : Value} {Q : Value × List Value → Shared → Prop} (h : Q (.type "itertools.permutations", [v]) s) : wpAny (model prog w) A (Builtin.Itertools.itClassAndRest "permutations" ⟨[.type "itertools.permutations", v], []⟩) Q E s := by
  unfold Builtin.Itertools.itClassAndRest
  have e : ("itertools." ++ "permutations" : String) = "itertools.permutations" := by decide
  rw [e]
  show wpAny _ _ (isType (.type "itertools.permutations") >>= _) _ _ _
  refine wpAny_bind (wpAny_of_eq (a := true) (by rfl) ?_)
  show wpAny _ _ (isSubtype (.type "itertools.permutations") (.type "itertools.permutations") >>= _) _ _ _
  refine wpAny_bind (wpAny_of_eq F.sub_perm ?_)
  exact wpAny_pure h
def cyc (n : Nat) : List Nat := (List.range n).map fun i => n - i
theorem nums_cyc (n : Nat) : ((List.range n).map fun (i : Nat) => rawInt ((n : Int) - i)) = nums (cyc n) := by
  unfold nums cyc
  rw [List.map_map]
  refine List.map_congr_left fun i hi => ?_
  have := List.mem_range.mp hi
  show rawInt ((n : Int) - i) = rawInt ((n - i : Nat) : Int)
  congr 1
  omega
/-- all of a tuple -/
theorem collect_tuple {l : Addr} {vs : List Value} {Q : List Value → Shared → Prop} (hl : s.heap.IsTuple l vs.toArray)
    (h : Q vs { s with heap := (s.heap.push (seqObj "list" #[] 0)).update s.heap.objs.size (Obj.mapSeq (· ++ vs.toArray)) }) (hsz : vs.length ≤ sizeLine) :
    wpAny (model prog w) A (collect (.ref l)) Q E s := by
  obtain ⟨o, ho, hc, n, hd⟩ := id hl
  unfold collect
  refine wpAny_bind (wpAny_runValue (codeAny_builtin F.entry_proto_collect ?_))
  show wpAny _ _ (do again (.builtin "list.__iadd__" ⟨[← newList [], .ref l], []⟩)) _ _ s
  refine wpAny_bind (wpAny_newList (wpAny_pure ⟨Code.quiet_builtin _ (by decide +kernel), codeAny_builtin F.entry_list_iadd ?_⟩))
  show wpAny _ _ (Builtin.List.listExtendWith (.ref s.heap.objs.size) (.ref l) (.ref s.heap.objs.size)) _ _ { s with heap := s.heap.push (seqObj "list" #[] 0) }
  unfold Builtin.List.listExtendWith
  have ho' : (s.heap.push (seqObj "list" #[] 0)).get? l = some o := Heap.get?_push_of_some _ ho
  refine wpAny_bind (wpAny_typeOf (T := "tuple") ⟨o, ho', hc⟩ ?_)
  have ht : (Value.type "tuple" == Value.type "tuple") = true := by rfl
  rw [if_pos (by rw [ht]; simp)]
  refine wpAny_bind (listItems_at ho' hd ?_)
  refine wpAny_bind (listItems_at (xs := #[]) (n := 0) (Heap.get?_push_size _ rfl) rfl ?_)
  rw [if_neg (by simp)]
  refine wpAny_bind (listUpdate_at (xs := #[]) (n := 0) (Heap.get?_push_size _ rfl) rfl ?_ (Nat.zero_le _) (by show (#[] ++ vs.toArray).size ≤ sizeLine + 1; simp only [Array.size_append, List.size_toArray, List.length_nil]; omega))
  refine wpAny_pure ?_
  show wpAny (model prog w) A (do
      let o ← load s.heap.objs.size
      match o.data with
      | .seq xs _ => pure xs.toList
      | _ => unsupported "internal:collect") Q E { s with heap := (s.heap.push (seqObj "list" #[] 0)).update s.heap.objs.size (Obj.mapSeq (· ++ vs.toArray)) }
  refine wpAny_bind (wpAny_load (get?_update_seq (Heap.get?_push_size _ rfl) _) ?_)
  show wpAny _ _ (pure ((#[] : Array Value) ++ vs.toArray).toList) Q E _
  rw [show ((#[] : Array Value) ++ vs.toArray).toList = vs by simp]
  exact wpAny_pure h
theorem kept_upd {h : Heap} {o : Obj} {f : Obj → Obj} : ∀ b ob, h.get? b = some ob → ((h.push o).update h.objs.size f).get? b = some ob := fun b ob q => by
  have hlt : b < h.objs.size := Heap.lt_size q
  rw [Heap.get?_update_ne _ _ _ _ (Nat.ne_of_lt hlt)]
  exact Heap.get?_push_of_some _ q
/-- what permutations(v) takes -/
def Colls (v : Value) (xs : List V) (S : Around → Shared → Prop) : Prop := ∀ (prog : Program) (w : World) (A : Around) (E : Value → Shared → Prop) (s : Shared) (Q : List Value → Shared → Prop), S A s →
  (∀ h1 tk vs, Vals xs vs → (∀ b o, s.heap.get? b = some o → h1.get? b = some o) → Q vs { s with heap := h1, toks := tk }) → wpAny (model prog w) A (collect v) Q E s
theorem Colls.list {l : Addr} {xs : List V} (hz : xs.length ≤ 1000) : Colls (.ref l) xs fun _ s => ∃ vs, Vals xs vs ∧ s.heap.IsList l vs.toArray := fun prog w A E s Q ⟨vs, rv, hl⟩ h =>
  PyProof.Rows.collect_list hl (h _ s.toks vs rv kept_upd) (by rw [← rv.length, sizeLine_eq]; omega)
theorem Colls.tuple {l : Addr} {xs : List V} (hz : xs.length ≤ 1000) : Colls (.ref l) xs fun _ s => ∃ vs, Vals xs vs ∧ s.heap.IsTuple l vs.toArray := fun prog w A E s Q ⟨vs, rv, hl⟩ h =>
  collect_tuple hl (h _ s.toks vs rv kept_upd) (by rw [← rv.length, sizeLine_eq]; omega)
theorem Colls.range {r : Addr} {a b : Int} {t u v : Tok} (b1 : -(2 ^ 62) ≤ a) (b2 : a < 2 ^ 62) (b3 : -(2 ^ 62) ≤ b) (b4 : b < 2 ^ 62) (b5 : (b - a).toNat ≤ 2 ^ 24) : Colls (.ref r) (rgV a b) fun A s => A.handled = none ∧ IsRange s.heap r a b 1 t u v := fun prog w A E s Q ⟨hh, hr⟩ h =>
  L2.collect_range hh hr (small_one b1 b2 b3 b4) (rangeSize_nat a b) b5 fun h' tk acc hk hi => h h' tk acc.toList (vals_rg hi) hk
theorem perm_new {v : Value} {xs : List V} {S : Around → Shared → Prop} (hz : xs.length ≤ 1000) (hcol : Colls v xs S) :
    Meets (Builtin.«itertools.permutations.__new__» ⟨[.type "itertools.permutations", v], []⟩) (fun A R s => S A.in1 s ∧
      ∀ (h1 h' : Heap) tk T e vs, Vals xs vs → h'.get? e = some (permOb T 0 xs.length .none (List.range xs.length ++ cyc xs.length)) → h'.IsTuple T vs.toArray → e ≠ T → h1.objs.size ≤ T → h1.objs.size ≤ e → (∀ b o, s.heap.get? b = some o → h1.get? b = some o) → (∀ b o, h1.get? b = some o → h'.get? b = some o) →
        R (.ok (.ret (.ref e))) { s with heap := h', toks := tk }) :=
  .of_wp fun prog w A R s h => by
    obtain ⟨hl, h⟩ := h
    have hsl : sizeLine = 16777216 := sizeLine_eq
    unfold Builtin.«itertools.permutations.__new__»
    refine wpAny_bind (wp_class ?_)
    refine wpAny_bind (wpAny_of_eq (bind_named _) ?_)
    refine wpAny_bind (hcol prog w A.in1 _ s _ hl fun h1 tk vs rv hkp => ?_)
    refine wpAny_bind (wpAny_pure ?_)
    have hxv := rv.length
    rw [hxv] at h hz
    have c2 : Builtin.Itertools.itTooMany ((vs.length : Nat) : Int) = false := by
      unfold Builtin.Itertools.itTooMany
      exact decide_eq_false (by omega)
    dsimp only
    rw [if_neg (by omega : ¬ ((vs.length : Nat) : Int) < 0), c2, if_neg Bool.false_ne_true]
    refine wpAny_bind (wpAny_newTuple (s := { s with heap := h1, toks := tk }) ?_ (by omega))
    unfold Builtin.Itertools.itNewRecord
    rw [F.perm_noDict, if_pos (by rfl)]
    have hf : ([Value.ref h1.objs.size, rawInt (if ((vs.length : Nat) : Int).toNat > vs.length then 2 else 0), rawInt ((((vs.length : Nat) : Int).toNat : Nat) : Int), Value.none] ++ List.map (fun (i : Nat) => rawInt (i : Int)) (List.range vs.length) ++ List.map (fun (i : Nat) => rawInt (((vs.length : Nat) : Int) - i)) (List.range ((vs.length : Nat) : Int).toNat)).toArray
        = (Value.ref h1.objs.size :: rawInt ((0 : Nat) : Int) :: rawInt ((vs.length : Nat) : Int) :: Value.none :: nums (List.range vs.length ++ cyc vs.length)).toArray := by
      rw [Int.toNat_natCast, nums_cyc, if_neg (by omega)]
      unfold nums
      rw [List.map_append]; rfl
    show wpAny _ _ (newObj (Value.type "itertools.permutations") (Data.fields ([Value.ref h1.objs.size, rawInt (if ((vs.length : Nat) : Int).toNat > vs.length then 2 else 0), rawInt ((((vs.length : Nat) : Int).toNat : Nat) : Int), Value.none] ++ List.map (fun (i : Nat) => rawInt (i : Int)) (List.range vs.length) ++ List.map (fun (i : Nat) => rawInt (((vs.length : Nat) : Int) - i)) (List.range ((vs.length : Nat) : Int).toNat)).toArray) none >>= _) _ _ _
    rw [hf]
    have hz2 : (h1.push { cls := .type "tuple", data := .seq vs.toArray }).objs.size = h1.objs.size + 1 := by rw [Heap.size_push]
    refine wpAny_bind (wpAny_newObj_type (s := { s with heap := h1.push { cls := .type "tuple", data := .seq vs.toArray }, toks := tk }) ?_ ?_)
    · refine wpAny_pure ⟨_, rfl, ?_⟩
      show R (.ok (.ret (.ref (h1.push { cls := .type "tuple", data := .seq vs.toArray }).objs.size))) { s with heap := (h1.push { cls := .type "tuple", data := .seq vs.toArray }).push (permOb h1.objs.size 0 vs.length .none (List.range vs.length ++ cyc vs.length)), toks := tk }
      refine h h1 _ tk h1.objs.size _ vs rv ?_ ?_ ?_ (Nat.le_refl _) ?_ hkp ?_
      · exact Heap.get?_push_size _ rfl
      · refine ⟨_, Heap.get?_push_of_some _ (Heap.get?_push_size _ rfl), rfl, _, rfl⟩
      · rw [hz2]; exact Nat.succ_ne_self _
      · rw [hz2]; omega
      · intro b o q
        exact Heap.get?_push_of_some _ (Heap.get?_push_of_some _ q)
    · show (Value.ref h1.objs.size :: rawInt ((0 : Nat) : Int) :: rawInt ((vs.length : Nat) : Int) :: Value.none :: nums (List.range vs.length ++ cyc vs.length)).toArray.size ≤ _
      simp [nums, cyc]
      omega
end
end PySem
end

section
set_option Elab.async false
set_option linter.all false
set_option maxRecDepth 100000
namespace G
open PySem PySem.Spec PyProof.Rows L2
/-! ### permutations of a list -/
def factN : Nat → Nat
  | 0 => 1
  | n + 1 => (n + 1) * factN n
def permRun (n : Nat) : Nat → List Nat × List Nat → List (List Nat × List Nat)
  | 0, _ => []
  | k + 1, p => p :: match nextPm n n p.1 p.2 with
    | none => []
    | some q => permRun n k q
def permSt (n : Nat) : List (List Nat × List Nat) := permRun n (factN n) (List.range n, cyc n)
/-- all orders of n places, as they come -/
def permL (n : Nat) : List (List Nat) := (permSt n).map fun p => p.1
def permOk (n : Nat) : Bool := ((permSt n).all fun p => p.1.length == n && p.2.length == n) && match (permSt n).getLast? with
  | some p => (nextPm n n p.1 p.2).isNone
  | none => false
theorem run_first {n k : Nat} {p : List Nat × List Nat} (h : 0 < (permRun n k p).length) : (permRun n k p)[0]? = some p := by
  cases k with
  | zero => exact absurd h (Nat.lt_irrefl _)
  | succ k => rfl
theorem run_next {n : Nat} : ∀ {k : Nat} {p : List Nat × List Nat} {i : Nat} {a b : List Nat × List Nat}, (permRun n k p)[i]? = some a → (permRun n k p)[i + 1]? = some b → nextPm n n a.1 a.2 = some b
  | 0, p, i, a, b, h, _ => by cases h
  | k + 1, p, i, a, b, h, h2 => by
    unfold permRun at h h2
    cases hn : nextPm n n p.1 p.2 with
    | none => rw [hn] at h2; simp at h2
    | some q =>
      rw [hn] at h h2
      rw [List.getElem?_cons_succ] at h2
      cases i with
      | zero =>
        rw [List.getElem?_cons_zero] at h
        cases h
        have hl : 0 < (permRun n k q).length := (List.getElem?_eq_some_iff.mp h2).1
        have h2 : (permRun n k q)[0]? = some b := h2
        rw [run_first hl] at h2
        cases h2; exact hn
      | succ i =>
        rw [List.getElem?_cons_succ] at h
        exact run_next h h2
def ItP (xs : List V) : It :=
  ⟨fun i _ => i < (permL xs.length).length, fun i H v H' => ∃ T o ix, (permL xs.length)[i]? = some ix ∧ v = .ref T ∧ H T = none ∧ o.cls = .type "tuple" ∧ o.dict = none ∧ H' = upd H T (.frz o (.tup (ix.map fun k => xs.getD k .non))), fun i _ => (permL xs.length).length ≤ i⟩
theorem vals_getD : ∀ {xs : List V} {its : List Value}, Vals xs its → ∀ k : Nat, RelV (xs.getD k .non) (its.getD k .none)
  | _, _, .nil, k => by
    show RelV .non .none
    rfl
  | _, _, .cons r rs, 0 => r
  | _, _, .cons r rs, k + 1 => vals_getD rs k
theorem vals_map {xs : List V} {its : List Value} (rv : Vals xs its) : ∀ ix : List Nat, Vals (ix.map fun k => xs.getD k .non) (ix.map fun k => its.toArray.getD k .none)
  | [] => .nil
  | k :: r => .cons (by
      have := vals_getD rv k
      have e : its.toArray.getD k .none = its.getD k .none := by
        by_cases h : k < its.length
        · simp [Array.getD, h, List.getD_eq_getElem?_getD]
        · simp [Array.getD, h, List.getD_eq_getElem?_getD]
      show L2.RelV (xs.getD k .non) (its.toArray.getD k .none)
      rw [e]; exact this) (vals_map rv r)
/-- where the iterator stands -/
def AtP (n : Nat) (T e : Addr) (its : List Value) (i : Nat) (h : Heap) : Prop := ∃ prev ix cy, h.IsTuple T its.toArray ∧ e ≠ T ∧ i ≤ (permSt n).length ∧
  ((i = 0 ∧ h.get? e = some (permOb T 0 n prev (ix ++ cy)) ∧ (permSt n)[0]? = some (ix, cy)) ∨ ∃ j, i = j + 1 ∧ h.get? e = some (permOb T 1 n prev (ix ++ cy)) ∧ (permSt n)[j]? = some (ix, cy))
theorem st_len {n : Nat} (ok : permOk n = true) {j : Nat} {p : List Nat × List Nat} (h : (permSt n)[j]? = some p) : p.1.length = n ∧ p.2.length = n := by
  unfold permOk at ok
  obtain ⟨h1, _⟩ := ba ok
  have := List.all_eq_true.mp h1 p (List.mem_of_getElem? h)
  simpa using this
theorem st_last {n : Nat} (ok : permOk n = true) {j : Nat} {p : List Nat × List Nat} (h : (permSt n)[j]? = some p) (hj : j + 1 = (permSt n).length) : nextPm n n p.1 p.2 = none := by
  unfold permOk at ok
  obtain ⟨_, h2⟩ := ba ok
  have e : (permSt n).getLast? = some p := by
    rw [List.getLast?_eq_getElem?, ← h]
    congr 1; omega
  rw [e] at h2
  cases hq : nextPm n n p.1 p.2 with
  | none => rfl
  | some q =>
    have h2 : (nextPm n n p.1 p.2).isNone = true := h2
    rw [hq] at h2; cases h2
theorem turn_perm {P : Program} {w : PySem.World} {K : PySem.W.Frag} {tg : Expr} {xs : List V} {its : List Value} (rv : Vals xs its) (ok : permOk xs.length = true) (hz : xs.length ≤ 1000) (T e : Addr) :
    Turn P w K tg (ItP xs) [e, T] e (AtP xs.length T e its) where
  mem := by simp
  obj := fun i h ⟨prev, ix, cy, ⟨oT, hoT, hcT, kT, hdT⟩, hne, hi, st⟩ b hb => by
    have e' : b = e ∨ b = T := by simpa using hb
    rcases e' with rfl | rfl
    · rcases st with ⟨_, ho, _⟩ | ⟨j, _, ho, _⟩
      · exact ⟨_, ho, fun v q => by cases q⟩
      · exact ⟨_, ho, fun v q => by cases q⟩
    · exact ⟨oT, hoT, fun v q => by rw [hdT] at q; cases q⟩
  keep := fun i h h' ⟨prev, ix, cy, ⟨oT, hoT, hcT, kT, hdT⟩, hne, hi, st⟩ k => ⟨prev, ix, cy, ⟨oT, k T (by simp) _ hoT, hcT, kT, hdT⟩, hne, hi, st.imp (fun ⟨a, b, c⟩ => ⟨a, k e (by simp) _ b, c⟩) fun ⟨j, a, b, c⟩ => ⟨j, a, k e (by simp) _ b, c⟩⟩
  item := by
    intro X hP hw hK hc i pins s σ H E I hf st hg
    subst hP hw hK
    obtain ⟨prev, ix, cy, hT, hne, hi, st⟩ := st
    have hl := rv.length
    have hn : its.toArray.size = xs.length := by rw [List.size_toArray]; omega
    have hsl : sizeLine = 16777216 := sizeLine_eq
    have hlen : (permL xs.length).length = (permSt xs.length).length := List.length_map _
    have hgo : i < (permSt xs.length).length := by rw [← hlen]; exact hg
    -- what is handed out
    have fin : ∀ (ix' cy' : List Nat) (h' : Heap), (permSt xs.length)[i]? = some (ix', cy') → h'.get? e = some (permOb T 1 xs.length (.ref s.heap.objs.size) (ix' ++ cy')) → h'.get? s.heap.objs.size = some { cls := .type "tuple", data := .seq (ix'.map fun i => its.toArray.getD i .none).toArray } → (∀ b o, b ≠ e → s.heap.get? b = some o → h'.get? b = some o) →
        wpAny (model X.prog X.w) X.A (letOwnedTupleGo tg (.ref e) (.ref s.heap.objs.size)) (fun _ s2 => ∃ x H', Inv X pins σ H' s2 ∧ RelV x (.ref s.heap.objs.size) ∧ (ItP xs).yld i H x H' ∧ AtP xs.length T e its (i + 1) s2.heap ∧ ∀ b ∈ [e, T], H' b = none) E { s with heap := h' } := by
      intro ix' cy' h' hst ho hT' hk
      refine go_of (s := { s with heap := h' }) ho rfl rfl (by decide) ?_
      have hlix : ix'.length = xs.length := (st_len ok hst).1
      let oo : Obj := { cls := .type "tuple", data := .seq (ix'.map fun i => its.toArray.getD i .none).toArray }
      have new : ObjOk X.prog X.w (upd H s.heap.objs.size (.frz oo (.tup (ix'.map fun k => xs.getD k .non)))) h' s.heap.objs.size (.frz oo (.tup (ix'.map fun k => xs.getD k .non))) :=
        ⟨hT', by show (ix'.map _).length ≤ sizeLine; rw [List.length_map]; omega, _, vals_map rv ix', ⟨_, hT', rfl, _, rfl⟩⟩
      have I1 : Inv X pins σ (upd H s.heap.objs.size (.frz oo (.tup (ix'.map fun k => xs.getD k .non)))) { s with heap := h' } :=
        I.turnedNew (t' := s.toks) (ch := [e]) (fun b ob hb q => hk b ob (fun z => hb (by simp [z])) q) (fun b hb => hf b (by simp at hb; simp [hb])) (Nat.le_refl _) new
      have hix : (permL xs.length)[i]? = some ix' := by unfold permL; rw [List.getElem?_map, hst]; rfl
      refine ⟨.ref s.heap.objs.size, _, I1, rfl, ⟨_, oo, ix', hix, rfl, I.hok.fresh (Nat.le_refl _), rfl, rfl, rfl⟩, ⟨_, ix', cy', ?_, hne, hgo, .inr ⟨i, rfl, ho, hst⟩⟩, fun b hb => ?_⟩
      · obtain ⟨oT, hoT, hcT, kT, hdT⟩ := hT
        exact ⟨oT, hk T oT (Ne.symm hne) hoT, hcT, kT, hdT⟩
      · have hb' : b < s.heap.objs.size := by
          have e' : b = e ∨ b = T := by simpa using hb
          rcases e' with rfl | rfl
          · rcases st with ⟨_, ho, _⟩ | ⟨j, _, ho, _⟩
            · exact Heap.lt_size ho
            · exact Heap.lt_size ho
          · obtain ⟨oT, hoT, _⟩ := hT
            exact Heap.lt_size hoT
        rw [upd_ne (Nat.ne_of_lt hb')]
        exact (hf b hb).1
    unfold pyNext
    rcases st with ⟨rfl, ho, hst⟩ | ⟨j, rfl, ho, hst⟩
    · have hTy : s.TypeIs (.ref e) "itertools.permutations" := ⟨_, ho, rfl⟩
      refine wpAny_bind (wpAny_attempt (wpAny_callSpecial?_slot (name := Str.ofString "__next__") hTy F.slot_perm_next
        (wpAny_call_entry F.slot_perm_next hTy F.entry_perm_next ?_ (F.args_perm_next_1 _))))
      exact perm_first ho hT hn (st_len ok hst).1 (by omega) fun h' q1 q2 q3 => ⟨_, rfl, wpAny_pure ⟨_, rfl, fin ix cy h' hst q1 q2 q3⟩⟩
    · have hTy : s.TypeIs (.ref e) "itertools.permutations" := ⟨_, ho, rfl⟩
      obtain ⟨⟨ix', cy'⟩, hst'⟩ : ∃ p, (permSt xs.length)[j + 1]? = some p := ⟨_, List.getElem?_eq_getElem hgo⟩
      have hx := run_next hst hst'
      refine wpAny_bind (wpAny_attempt (wpAny_callSpecial?_slot (name := Str.ofString "__next__") hTy F.slot_perm_next
        (wpAny_call_entry F.slot_perm_next hTy F.entry_perm_next ?_ (F.args_perm_next_1 _))))
      exact perm_mid ho hT hn (st_len ok hst).1 (by omega) hx (st_len ok hst').1 (st_len ok hst').2 hz fun h' q1 q2 q3 => ⟨_, rfl, wpAny_pure ⟨_, rfl, fin ix' cy' h' hst' q1 q2 q3⟩⟩
  done := by
    intro X hP hw hK hc i pins s σ H E I hf st hg
    subst hP hw hK
    obtain ⟨prev, ix, cy, hT, hne, hi, st⟩ := st
    have hl := rv.length
    have hn : its.toArray.size = xs.length := by rw [List.size_toArray]; omega
    have hlen : (permL xs.length).length = (permSt xs.length).length := List.length_map _
    have hge : (permSt xs.length).length ≤ i := by rw [← hlen]; exact hg
    obtain ⟨f0, f1, f2, f3, f4, f5⟩ := hf e (by simp)
    rcases st with ⟨rfl, ho, hst⟩ | ⟨j, rfl, ho, hst⟩
    · have := (List.getElem?_eq_some_iff.mp hst).1
      omega
    · have hTy : s.TypeIs (.ref e) "itertools.permutations" := ⟨_, ho, rfl⟩
      have hj := (List.getElem?_eq_some_iff.mp hst).1
      unfold pyNext
      refine wpAny_bind (wpAny_attempt (wpAny_callSpecial?_slot (name := Str.ofString "__next__") hTy F.slot_perm_next
        (wpAny_call_entry F.slot_perm_next hTy F.entry_perm_next ?_ (F.args_perm_next_1 _))))
      refine perm_end (show X.A.in1.handled = none from I.ok.hd hc) ho hT hn (st_len ok hst).1 (st_last ok hst (by omega)) fun h' x o q1 q2 q3 => ?_
      refine wpAny_bind (wpAny_isInstance (T := "StopIteration") (b := true) ⟨o, q2, q3⟩ isSubtype_stop ?_)
      exact wpAny_pure ⟨rfl, I.turned (t' := s.toks) q1 f0 f1 f3 f4 f5⟩
  self := fun A i s Q E st h => by
    obtain ⟨prev, ix, cy, hT, hne, hi, st⟩ := st
    have hTy : s.TypeIs (.ref e) "itertools.permutations" := by
      rcases st with ⟨_, ho, _⟩ | ⟨j, _, ho, _⟩
      · exact ⟨_, ho, rfl⟩
      · exact ⟨_, ho, rfl⟩
    refine wpAny_pyIter_slot hTy F.slot_perm_iter (wpAny_call_entry F.slot_perm_iter hTy F.entry_perm_iter ?_ (F.args_perm_iter_1 _))
    show wpAny _ _ (ret (.ref e)) _ _ s
    exact wpAny_pure ⟨_, rfl, "itertools.permutations", _, hTy, F.slot_perm_next.lookup, h⟩
theorem perm_pos {n : Nat} : 0 < (permSt n).length := by
  have : ∀ n, 0 < factN n := by
    intro n
    induction n with
    | zero => decide
    | succ n ih => unfold factN; exact Nat.mul_pos (Nat.succ_pos _) ih
  unfold permSt
  cases hf : factN n with
  | zero => have := this n; omega
  | succ k => unfold permRun; simp
section
variable {X : Cx} {tg e : Expr} {x : Str} {p pos : Pos}
theorem perm_call {pins : List (Addr × Obj)} {s1 : Shared} {σ : L2.St} {H1 : Hp} {R : It → Hp → Prop} {v : Value} {xs : List V} {S : Around → Shared → Prop} (I1 : Inv X pins σ H1 s1) (hcol : Colls v xs S) (hS : S X.A.in1.in1 s1) (hz : xs.length ≤ 1000) (ok : permOk xs.length = true) (q : R (ItP xs) H1) :
    wpAny (model X.prog X.w) X.A (call (.type "itertools.permutations") [v]) (fun v s2 => wpAny (model X.prog X.w) X.A (pyIter v) (PIE X pins σ tg R) X.xe s2) X.xe s1 := by
  refine callType_new F.called_perm (by decide) (F.typeCall_perm_1 _) (F.newCall_perm_1 _) (fun obj => F.args_object_init_2 obj _) F.entry_perm_new (perm_new hz hcol) ⟨hS, fun h1 h' tk T e its rv q1 q2 q3 q4 q5 q6 q7 => ?_⟩
  have hTy : ({ s1 with heap := h', toks := tk } : Shared).TypeIs (.ref e) "itertools.permutations" := ⟨_, q1, rfl⟩
  refine ⟨hTy, ?_⟩
  have Ia : Inv X pins σ H1 { s1 with heap := h1, toks := tk } := I1.kept q6
  have I2 : Inv X pins σ H1 { s1 with heap := h', toks := tk } := Ia.kept (t' := tk) q7
  have fr : ∀ b ∈ [e, T], FpOk X pins H1 b := fun b hb => by
    have e' : b = e ∨ b = T := by simpa using hb
    have hle : h1.objs.size ≤ b := by rcases e' with rfl | rfl <;> assumption
    exact Ia.fpOk hle (Ia.hok.fresh hle)
  have at0 : AtP xs.length T e its 0 h' := by
    refine ⟨_, _, _, q2, q3, Nat.zero_le _, .inl ⟨rfl, q1, ?_⟩⟩
    exact run_first perm_pos
  have TT := turn_perm (P := X.prog) (w := X.w) (K := X.K) (tg := tg) rv ok hz T e
  exact TT.self X.A 0 { s1 with heap := h', toks := tk } _ _ at0 ⟨e, [e, T], _, _, H1, rfl, I2, TT, at0, fr, q⟩
def iPerm (K : PySem.W.Frag) (ta : TA) : TI := fun σ H R => ta σ H fun vs H1 => ∃ a xs, vs = [.ref a] ∧ (SqL K H1 a xs ∨ SqT K H1 a xs) ∧ xs.length ≤ 1000 ∧ permOk xs.length = true ∧ R (ItP xs) H1
theorem pi_perm {ta : TA} (hg : Gl X x) (hm : X.mg x = some (.type "itertools.permutations")) (hd : (x == ("__debug__" : Str)) = false) (ha : PA X [e] ta) (hs : starEach [e] X.env = [(false, eval e X.env)]) :
    PI X tg (.Call (.Name x p) [e] [] pos) (iPerm X.K ta) := by
  refine ⟨fun pins s σ H R I h => ?_⟩
  refine Call_ (ld_glob I hg hm (PyProof.Rows.callWith_type1 (thn (ha.run pos pins s σ H _ I h) fun us s1 ⟨vs, H1, I1, r1, q1⟩ => ?_) hs rfl) hd)
  obtain ⟨a, xs, ex, hq, hz, ok, q⟩ := q1
  subst ex
  cases r1 with
  | cons r rr =>
    cases rr
    cases r
    rcases hq with hq | hq
    · obtain ⟨its, rv, pl, _⟩ := I1.list hq
      exact perm_call I1 (Colls.list hz) ⟨its, rv, pl.isList⟩ hz ok q
    · obtain ⟨its, rv, pl, _⟩ := I1.tuple hq
      exact perm_call I1 (Colls.tuple hz) ⟨its, rv, pl⟩ hz ok q
def iPermR (te : L2.St → Hp → (Int → Int → Hp → Prop) → Prop) : TI := fun σ H R => te σ H fun a b H1 => RgOk a b ∧ (b - a).toNat ≤ 1000 ∧ permOk (b - a).toNat = true ∧ R (ItP (rgV a b)) H1
theorem pi_permR {te : L2.St → Hp → (Int → Int → Hp → Prop) → Prop} (hc : X.calm = true) (hg : Gl X x) (hm : X.mg x = some (.type "itertools.permutations")) (hd : (x == ("__debug__" : Str)) = false) (he : PRg X e te) (na : starEach [e] X.env = (false, eval e X.env) :: starEach [] X.env) :
    PI X tg (.Call (.Name x p) [e] [] pos) (iPermR te) := by
  refine ⟨fun pins s σ H R I h => ?_⟩
  refine Call_ (ld_glob I hg hm (PyProof.Rows.callWith_type1 (args_cons (thn (he pins s σ H _ I h) fun x s1 ⟨r, a, b, t, u, v, H1, ex, hr, I1, ok, q⟩ => args_nil ?_) na) na) hd)
  subst ex
  obtain ⟨hz, hp, q⟩ := q
  obtain ⟨b1, b2, b3, b4, b5⟩ := ok
  have hl : (rgV a b).length = (b - a).toNat := rgV_length ..
  exact perm_call I1 (Colls.range b1 b2 b3 b4 b5) ⟨I1.ok.hd hc, hr⟩ (by rw [hl]; exact hz) (by rw [hl]; exact hp) q
end
end G
end

section
set_option Elab.async false
set_option linter.all false
set_option maxRecDepth 100000
namespace G
open PySem PySem.Spec PyProof.Rows L2
/-! ### a loop over permutations -/
def pickD (xs : List D) (ix : List Nat) : D := .tup (ix.map fun k => xs.getD k .non)
def permsD (xs : List D) : List D := (permL xs.length).map (pickD xs)
def permG (n : Nat) : Bool := decide (n ≤ 1000) && permOk n
def permSrc (xs : List D) : M Src := fun S => if permG xs.length then .ok (fixS (permsD xs)) S else .bad
def sPerm (ds : List D) : M Src := fun S => match ds with
  | [.ref n] => match S[n]? with
    | some (.lst xs) => permSrc xs S
    | _ => .bad
  | [d] => match fixOf d with
    | some (_, xs) => permSrc xs S
    | none => .bad
  | _ => .bad
theorem relDs_getD {K : PySem.W.Frag} {ι : Ix} {H : Hp} {xs : List D} {vs : List V} (h : RelDs K ι H xs vs) (k : Nat) : RelD K ι H (xs.getD k .non) (vs.getD k .non) := by
  cases e : xs[k]? with
  | some d =>
    obtain ⟨v, e2, r⟩ := h.get e
    rw [List.getD_eq_getElem?_getD, List.getD_eq_getElem?_getD, e, e2]
    exact r
  | none =>
    have e2 : vs[k]? = none := by
      rw [List.getElem?_eq_none_iff] at e ⊢
      rw [h.length]; exact e
    rw [List.getD_eq_getElem?_getD, List.getD_eq_getElem?_getD, e, e2]
    exact relD_non.mpr rfl
theorem permOk_mem {n : Nat} (ok : permOk n = true) {i : Nat} {ix : List Nat} (h : (permL n)[i]? = some ix) : ix.length = n := by
  unfold permL at h
  rw [List.getElem?_map] at h
  cases e : (permSt n)[i]? with
  | none => rw [e] at h; cases h
  | some p => rw [e] at h; cases h; exact (st_len ok e).1
section
variable {K : PySem.W.Frag} {ι : Ix} {H : Hp}
theorem SrcOk.perm {xs : List D} {vs : List V} (r : RelDs K ι H xs vs) (hz : xs.length ≤ 1000) (ok : permOk xs.length = true) : SrcOk K ι H (ItP vs) (fixS (permsD xs)) where
  go := fun i rd e ι' H' S S' d g w h => by
    obtain ⟨d', e1, rfl⟩ := fix_get e
    cases h
    unfold permsD at e1
    rw [List.getElem?_map] at e1
    cases e2 : (permL xs.length)[i]? with
    | none => rw [e2] at e1; cases e1
    | some ix =>
      rw [e2] at e1
      cases e1
      have hl := r.length
      refine ⟨rfl, ?_, fun u H'' y => ?_⟩
      · show i < (permL vs.length).length
        rw [hl]
        exact (List.getElem?_eq_some_iff.mp e2).1
      · obtain ⟨T, o, ix', h1, rfl, hT, hc, hd, rfl⟩ := y
        rw [hl, e2] at h1
        cases h1
        refine ⟨.fresh hT, w.fresh hT, relD_tup.mpr ⟨T, _, rfl, .inl ⟨o, upd_same, hd⟩, ?_, ?_⟩⟩
        · rw [List.length_map, permOk_mem ok e2, sizeLine_eq]; omega
        · exact (RelDs.map (fun k => relDs_getD (r.monoG g) k) ix).mono (.fresh hT)
  stop := fun ι' H' S S' g w h => by
    cases h
    refine ⟨rfl, ?_⟩
    show (permL vs.length).length ≤ _
    rw [fix_len]
    unfold permsD
    rw [List.length_map, r.length]
    exact Nat.le_refl _
end
theorem permSrc_ok {K : PySem.W.Frag} {ι : Ix} {H : Hp} {S : Store} {R : It → Hp → Prop} {xs : List D} {vs : List V} (w : World K ι H S) (r : RelDs K ι H xs vs) (f : Fin K (SrcR K) ι H R (permSrc xs S)) : vs.length ≤ 1000 ∧ permOk vs.length = true ∧ R (ItP vs) H := by
  unfold permSrc at f
  by_cases h : permG xs.length = true
  · rw [if_pos h] at f
    obtain ⟨h1, h2⟩ := ba h
    have h1 := of_decide_eq_true h1
    rw [r.length]
    exact ⟨h1, h2, f ι H _ (.refl _ _) w (SrcOk.perm r h1 h2)⟩
  · rw [if_neg h] at f; exact f.elim
def ciPerm (x : Str) {a : Ev} (e : CE a) (p pos : Pos) : CI (vSrc sPerm (aCons a aNil)) where
  py := .Call (.Name x p) [e.py] [] pos
  chk := fun L => decide ((x, "itertools.permutations") ∈ L.I.typs) && (glB L.sc x && (nameOk x && e.chk L))
  pr := false
  pl := rfl
  ok := fun L Φ X g q tg _ => by
    obtain ⟨q1, q2⟩ := ba q
    obtain ⟨q2, q3⟩ := ba q2
    obtain ⟨q3, q4⟩ := ba q3
    obtain ⟨n1, _, _⟩ := nameOk_ok q3
    have ht := g.typ _ (of_decide_eq_true q1)
    refine PI.weak (pi_perm (g.gl q2) ht n1 ((caCons e caNil).ok L Φ X g (by show (e.chk L && true) = true; rw [q4]; rfl)) (starEach_pl e.pl [] _)) fun σ H R ⟨ρ, S, ι, w, en, f⟩ => ⟨ρ, S, ι, w, en, Fin.bind f fun ds S1 ι1 H1 vs e1 w1 r1 f1 => ?_⟩
    unfold sPerm at f1
    split at f1
    · rename_i n
      obtain ⟨v, e2, rv⟩ := relDs_one r1
      obtain ⟨a, h1, h2⟩ := relD_ref.mp rv
      split at f1
      · rename_i xs hs
        obtain ⟨b, vs', k1, k2, k3, k4⟩ := w1.lstAt hs
        rw [h2] at k1; cases k1
        obtain ⟨z1, z2, z3⟩ := permSrc_ok w1 k4 f1
        exact ⟨a, vs', by rw [e2, h1], .inl (.inl (.inl k2)), z1, z2, z3⟩
      · exact f1.elim
    · rename_i d _
      obtain ⟨v, e2, rv⟩ := relDs_one r1
      cases hf : fixOf d with
      | none => simp only [hf] at f1; exact f1.elim
      | some bx =>
        obtain ⟨b, xs⟩ := bx
        simp only [hf] at f1
        obtain ⟨a, us, h1, h2, h3⟩ := fixOf_ok rv hf
        obtain ⟨z1, z2, z3⟩ := permSrc_ok w1 h2 f1
        refine ⟨a, us, by rw [e2, h1], ?_, z1, z2, z3⟩
        cases b with
        | false => exact .inl (h3 _ _ (.refl _ _))
        | true => exact .inr (h3 _ _ (.refl _ _))
    · exact f1.elim
/-- permutations(range(..)) -/
def kPermR (a b : Int) : M Src := fun S => if rgB a b && permG (b - a).toNat then .ok (fixS (permsD (rngD a (b - a).toNat))) S else .bad
def fRgS1 (d : D) : M Src := match d with
  | .int n => kPermR 0 n
  | _ => M.bad
def fRgS2 (d d' : D) : M Src := match d, d' with
  | .int a, .int b => kPermR a b
  | _, _ => M.bad
theorem rngD_length (a : Int) (n : Nat) : (rngD a n).length = n := by unfold rngD; rw [List.length_map, List.length_range]
theorem kPermR_ok {K : PySem.W.Frag} {ι : Ix} {H : Hp} {S : Store} {R : It → Hp → Prop} {a b : Int} (w : World K ι H S) (f : Fin K (SrcR K) ι H R (kPermR a b S)) : RgOk a b ∧ (b - a).toNat ≤ 1000 ∧ permOk (b - a).toNat = true ∧ R (ItP (rgV a b)) H := by
  unfold kPermR at f
  by_cases h : (rgB a b && permG (b - a).toNat) = true
  · rw [if_pos h] at f
    obtain ⟨h1, h2⟩ := ba h
    obtain ⟨h2, h3⟩ := ba h2
    have h2 := of_decide_eq_true h2
    have hl := rngD_length a (b - a).toNat
    exact ⟨rgB_ok h1, h2, h3, f ι H _ (.refl _ _) w (SrcOk.perm (rgV_rel a b) (by rw [hl]; exact h2) (by rw [hl]; exact h3))⟩
  · rw [if_neg h] at f; exact f.elim
def vPermR1 (a : Ev) : Sv := fun Φ ρ => (a Φ ρ).bind fRgS1
def vPermR2 (a b : Ev) : Sv := fun Φ ρ => (a Φ ρ).bind fun d => (b Φ ρ).bind fun d' => fRgS2 d d'
def ciPermR1 (x : Str) {a : Ev} (e : CE a) (p pr p2 pos : Pos) : CI (vPermR1 a) where
  py := .Call (.Name x p) [.Call (.Name "range" pr) [e.py] [] p2] [] pos
  chk := fun L => decide ((x, "itertools.permutations") ∈ L.I.typs) && (glB L.sc x && (nameOk x && (bltB L "range" && e.chk L)))
  pr := false
  pl := rfl
  ok := fun L Φ X g q tg _ => by
    obtain ⟨q1, q2⟩ := ba q
    obtain ⟨q2, q3⟩ := ba q2
    obtain ⟨q3, q4⟩ := ba q3
    obtain ⟨q4, q5⟩ := ba q4
    obtain ⟨n1, _, _⟩ := nameOk_ok q3
    obtain ⟨k1, k2, _, _⟩ := bltB_ok g q4
    have ht := g.typ _ (of_decide_eq_true q1)
    refine PI.weak (pi_permR g.calm (g.gl q2) ht n1 (prg_1 k1 k2 (e.ok L Φ X g q5) (starEach_pl e.pl _ _)) (starEach_pl rfl _ _)) fun σ H R ⟨ρ, S, ι, w, en, f⟩ => ⟨ρ, S, ι, w, en, Fin.bind f fun d S1 ι1 H1 v e1 w1 r1 f1 => ?_⟩
    cases d with
    | int n => exact ⟨n, relD_int.mp r1, kPermR_ok w1 f1⟩
    | _ => exact f1.elim
def ciPermR2 (x : Str) {a b : Ev} (e : CE a) (e' : CE b) (p pr p2 pos : Pos) : CI (vPermR2 a b) where
  py := .Call (.Name x p) [.Call (.Name "range" pr) [e.py, e'.py] [] p2] [] pos
  chk := fun L => decide ((x, "itertools.permutations") ∈ L.I.typs) && (glB L.sc x && (nameOk x && (bltB L "range" && (e.chk L && e'.chk L))))
  pr := false
  pl := rfl
  ok := fun L Φ X g q tg _ => by
    obtain ⟨q1, q2⟩ := ba q
    obtain ⟨q2, q3⟩ := ba q2
    obtain ⟨q3, q4⟩ := ba q3
    obtain ⟨q4, q5⟩ := ba q4
    obtain ⟨q5, q6⟩ := ba q5
    obtain ⟨n1, _, _⟩ := nameOk_ok q3
    obtain ⟨k1, k2, _, _⟩ := bltB_ok g q4
    have ht := g.typ _ (of_decide_eq_true q1)
    refine PI.weak (pi_permR g.calm (g.gl q2) ht n1 (prg_2 k1 k2 (e.ok L Φ X g q5) (e'.ok L Φ X g q6) (starEach_pl e.pl _ _) (starEach_pl e'.pl _ _) (plain_any (es := [e'.py]) (by simp [e'.pl]) _ _)) (starEach_pl rfl _ _)) fun σ H R ⟨ρ, S, ι, w, en, f⟩ => ⟨ρ, S, ι, w, en, Fin.bind f fun d S1 ι1 H1 v e1 w1 r1 f1 => ⟨ρ, S1, ι1, w1, en.mono e1, Fin.bind f1 fun d2 S2 ι2 H2 v2 e2 w2 r2 f2 => ?_⟩⟩
    cases d with
    | int n =>
      cases d2 with
      | int n2 => exact ⟨n, n2, relD_int.mp r1, relD_int.mp r2, kPermR_ok w2 f2⟩
      | _ => exact f2.elim
    | _ => cases d2 <;> exact f2.elim
end G
end

section
set_option Elab.async false
set_option linter.all false
set_option maxRecDepth 100000
namespace G
open PySem PySem.Spec PyProof.Rows L2
/-! ### plain reckoning -/
theorem bind_of {α β : Type} {m : M α} {f : α → M β} {S S1 : Store} {a : α} (h : m S = .ok a S1) : M.bind m f S = f a S1 := by unfold M.bind; rw [h]
theorem to_of {α : Type} {m : M α} {f : α → Store → Rs} {S S1 : Store} {a : α} (h : m S = .ok a S1) : M.to m f S = f a S1 := by unfold M.to; rw [h]
theorem seq_of {a b : Sm} {Φ : Ph} {ρ ρ1 : Ro} {S S1 : Store} (h : a Φ ρ S = .nx ρ1 S1) : sSeq a b Φ ρ S = b Φ ρ1 S1 := by unfold sSeq; rw [h]
theorem seq_rt {a b : Sm} {Φ : Ph} {ρ : Ro} {S S1 : Store} {d : D} (h : a Φ ρ S = .rt d S1) : sSeq a b Φ ρ S = .rt d S1 := by unfold sSeq; rw [h]
section
variable {gv : Gv} {t : Ro → M Bool} {e : Ro → M D} {ρ : Ro}
theorem lc1_filt {S : Store} (p : D → Bool) (f : D → D) : ∀ {xs : List D}, (∀ x ∈ xs, ∃ ρ1, gv x ρ = some ρ1 ∧ t ρ1 S = .ok (p x) S ∧ (p x = true → e ρ1 S = .ok (f x) S)) → lc1 (M.ok ()) gv t e ρ (xs.map M.ok) S = .ok ((xs.filter p).map f) S
  | [], _ => rfl
  | x :: r, h => by
    obtain ⟨ρ1, h1, h2, h3⟩ := h x List.mem_cons_self
    have ih := lc1_filt p f fun y hy => h y (List.mem_cons_of_mem _ hy)
    rw [List.map_cons]
    unfold lc1
    rw [bind_of (show (M.ok x : M D) S = .ok x S from rfl), bind_of (show tgM gv x ρ S = .ok ρ1 S by unfold tgM; rw [h1]), bind_of h2]
    cases hp : p x with
    | false =>
      rw [List.filter_cons_of_neg (by rw [hp]; decide)]
      exact ih
    | true =>
      rw [List.filter_cons_of_pos hp]
      show M.bind (e ρ1) _ S = _
      rw [bind_of (h3 hp), bind_of ih]
      rfl
theorem lc1_pure {S : Store} (f : D → D) {xs : List D} (h : ∀ x ∈ xs, ∃ ρ1, gv x ρ = some ρ1 ∧ t ρ1 S = .ok true S ∧ e ρ1 S = .ok (f x) S) : lc1 (M.ok ()) gv t e ρ (xs.map M.ok) S = .ok (xs.map f) S := by
  rw [lc1_filt (fun _ => true) f fun x hx => let ⟨ρ1, a, b, c⟩ := h x hx; ⟨ρ1, a, b, fun _ => c⟩]
  rw [List.filter_eq_self.mpr fun _ _ => rfl]
/-- each item takes the store on -/
theorem lc1_inv {P : Store → Prop} {Q : D → Prop} : ∀ {xs : List D} {S : Store}, P S → (∀ x ∈ xs, ∀ S, P S → ∃ ρ1 y S1, gv x ρ = some ρ1 ∧ t ρ1 S = .ok true S ∧ e ρ1 S = .ok y S1 ∧ P S1 ∧ Q y) → ∃ ys S1, lc1 (M.ok ()) gv t e ρ (xs.map M.ok) S = .ok ys S1 ∧ P S1 ∧ ys.length = xs.length ∧ ∀ y ∈ ys, Q y
  | [], S, hP, _ => ⟨[], S, rfl, hP, rfl, fun y h => by cases h⟩
  | x :: r, S, hP, h => by
    obtain ⟨ρ1, y, S1, h1, h2, h3, h4, h5⟩ := h x List.mem_cons_self S hP
    obtain ⟨ys, S2, k1, k2, k3, k4⟩ := lc1_inv h4 fun z hz => h z (List.mem_cons_of_mem _ hz)
    refine ⟨y :: ys, S2, ?_, k2, by rw [List.length_cons, List.length_cons, k3], fun z hz => ?_⟩
    · rw [List.map_cons]
      unfold lc1
      rw [bind_of (show (M.ok x : M D) S = .ok x S from rfl), bind_of (show tgM gv x ρ S = .ok ρ1 S by unfold tgM; rw [h1]), bind_of h2]
      show M.bind (e ρ1) _ S = _
      rw [bind_of h3, bind_of k1]
      rfl
    · rcases List.mem_cons.mp hz with rfl | hz
      · exact h5
      · exact k4 z hz
end
section
variable {sv : Sv} {gv : Gv} {tv : Tv} {ev : Ev} {vs : List Nat} {Φ : Ph} {ρ : Ro} {S S1 : Store} {xs : List D}
theorem eLc_filt (p : D → Bool) (f : D → D) (hs : sv Φ ρ S = .ok (fixS xs) S1) (hz : xs.length ≤ 16777216) (h : ∀ x ∈ xs, ∃ ρ1, gv x (wipeR ρ vs) = some ρ1 ∧ tv Φ ρ1 S1 = .ok (p x) S1 ∧ (p x = true → ev Φ ρ1 S1 = .ok (f x) S1)) : eLc false sv gv tv ev vs Φ ρ S = .ok (.lst ((xs.filter p).map f)) S1 := by
  unfold eLc
  rw [bind_of hs]
  show M.bind (lc1 (M.ok ()) gv (tv Φ) (ev Φ) (wipeR ρ vs) (xs.map M.ok)) (lcF false) S1 = _
  rw [bind_of (lc1_filt p f h)]
  unfold lcF
  rw [if_pos (by rw [List.length_map]; exact Nat.le_trans (List.length_filter_le _ _) hz)]
  rfl
theorem eLc_pure (f : D → D) (hs : sv Φ ρ S = .ok (fixS xs) S1) (hz : xs.length ≤ 16777216) (h : ∀ x ∈ xs, ∃ ρ1, gv x (wipeR ρ vs) = some ρ1 ∧ tv Φ ρ1 S1 = .ok true S1 ∧ ev Φ ρ1 S1 = .ok (f x) S1) : eLc false sv gv tv ev vs Φ ρ S = .ok (.lst (xs.map f)) S1 := by
  rw [eLc_filt (fun _ => true) f hs hz fun x hx => let ⟨ρ1, a, b, c⟩ := h x hx; ⟨ρ1, a, b, fun _ => c⟩]
  rw [List.filter_eq_self.mpr fun _ _ => rfl]
theorem eLc_inv {P : Store → Prop} {Q : D → Prop} (hs : sv Φ ρ S = .ok (fixS xs) S1) (hz : xs.length ≤ 16777216) (hP : P S1) (h : ∀ x ∈ xs, ∀ S, P S → ∃ ρ1 y S1, gv x (wipeR ρ vs) = some ρ1 ∧ tv Φ ρ1 S = .ok true S ∧ ev Φ ρ1 S = .ok y S1 ∧ P S1 ∧ Q y) :
    ∃ ys S2, eLc false sv gv tv ev vs Φ ρ S = .ok (.lst ys) S2 ∧ P S2 ∧ ys.length = xs.length ∧ ∀ y ∈ ys, Q y := by
  obtain ⟨ys, S2, h1, h2, h3, h4⟩ := lc1_inv hP h
  refine ⟨ys, S2, ?_, h2, h3, h4⟩
  unfold eLc
  rw [bind_of hs]
  show M.bind (lc1 (M.ok ()) gv (tv Φ) (ev Φ) (wipeR ρ vs) (xs.map M.ok)) (lcF false) S1 = _
  rw [bind_of h1]
  unfold lcF
  rw [if_pos (by rw [h3]; exact hz)]
  rfl
end
/-- a loop that runs through -/
theorem forS_inv {gm : D → Ro → M Ro} {body : Ro → Store → Rs} (Inv : List D → Ro → Store → Prop)
    (h : ∀ x r ρ S, Inv (x :: r) ρ S → ∃ ρ1 S1 ρ2 S2, gm x ρ S = .ok ρ1 S1 ∧ (body ρ1 S1 = .nx ρ2 S2 ∨ body ρ1 S1 = .ct ρ2 S2) ∧ Inv r ρ2 S2) :
    ∀ {xs : List D} {ρ : Ro} {S : Store}, Inv xs ρ S → ∃ ρ' S', forS (M.ok ()) gm body (xs.map M.ok) ρ S = .nx ρ' S' ∧ Inv [] ρ' S'
  | [], ρ, S, i => ⟨ρ, S, rfl, i⟩
  | x :: r, ρ, S, i => by
    obtain ⟨ρ1, S1, ρ2, S2, h1, h2, h3⟩ := h x r ρ S i
    obtain ⟨ρ', S', k1, k2⟩ := forS_inv Inv h h3
    refine ⟨ρ', S', ?_, k2⟩
    rw [List.map_cons]
    unfold forS
    rw [to_of (show (M.ok x : M D) S = .ok x S from rfl), to_of h1]
    rcases h2 with h2 | h2 <;> (rw [h2]; exact k1)
theorem sFor_of {sv : Sv} {gm : Gm} {b : Sm} {Φ : Ph} {ρ : Ro} {S S1 : Store} {xs : List D} (hs : sv Φ ρ S = .ok (fixS xs) S1) : sFor sv gm b Φ ρ S = forS (M.ok ()) (gm Φ) (b Φ) (xs.map M.ok) ρ S1 := by
  unfold sFor
  rw [to_of hs]
  rfl
/-- a loop that may return -/
theorem forS_rt {gm : D → Ro → M Ro} {body : Ro → Store → Rs} (Inv : List D → Ro → Store → Prop) (End : D → Store → Prop)
    (h : ∀ x r ρ S, Inv (x :: r) ρ S → ∃ ρ1 S1, gm x ρ S = .ok ρ1 S1 ∧ ((∃ ρ2 S2, (body ρ1 S1 = .nx ρ2 S2 ∨ body ρ1 S1 = .ct ρ2 S2) ∧ Inv r ρ2 S2) ∨ ∃ d S2, body ρ1 S1 = .rt d S2 ∧ End d S2)) :
    ∀ {xs : List D} {ρ : Ro} {S : Store}, Inv xs ρ S → (∃ ρ' S', forS (M.ok ()) gm body (xs.map M.ok) ρ S = .nx ρ' S' ∧ Inv [] ρ' S') ∨ ∃ d S', forS (M.ok ()) gm body (xs.map M.ok) ρ S = .rt d S' ∧ End d S'
  | [], ρ, S, i => .inl ⟨ρ, S, rfl, i⟩
  | x :: r, ρ, S, i => by
    obtain ⟨ρ1, S1, h1, h2⟩ := h x r ρ S i
    rcases h2 with ⟨ρ2, S2, h2, h3⟩ | ⟨d, S2, h2, h3⟩
    · rcases forS_rt Inv End h h3 with ⟨ρ', S', k1, k2⟩ | ⟨d, S', k1, k2⟩
      · refine .inl ⟨ρ', S', ?_, k2⟩
        rw [List.map_cons]
        unfold forS
        rw [to_of (show (M.ok x : M D) S = .ok x S from rfl), to_of h1]
        rcases h2 with h2 | h2 <;> (rw [h2]; exact k1)
      · refine .inr ⟨d, S', ?_, k2⟩
        rw [List.map_cons]
        unfold forS
        rw [to_of (show (M.ok x : M D) S = .ok x S from rfl), to_of h1]
        rcases h2 with h2 | h2 <;> (rw [h2]; exact k1)
    · refine .inr ⟨d, S2, ?_, h3⟩
      rw [List.map_cons]
      unfold forS
      rw [to_of (show (M.ok x : M D) S = .ok x S from rfl), to_of h1, h2]
      rfl
/-! ### values -/
theorem bools_map {α : Type} (f : α → Bool) : ∀ l : List α, bools (l.map fun x => D.bl (f x)) = some (l.map f)
  | [] => rfl
  | a :: r => by
    simp only [List.map_cons]
    unfold bools
    rw [bools_map f r]; rfl
theorem fAll_map {α : Type} (f : α → Bool) (l : List α) (S : Store) : fAll (.lst (l.map fun x => D.bl (f x))) S = .ok (.bl (l.all f)) S := by
  unfold fAll fBl
  simp only [lstOf, bools_map]
  simp [List.all_map]
theorem fAny_map {α : Type} (f : α → Bool) (l : List α) (S : Store) : fAny (.lst (l.map fun x => D.bl (f x))) S = .ok (.bl (l.any f)) S := by
  unfold fAny fBl
  simp only [lstOf, bools_map]
  simp [List.any_map]
theorem intsOf_map : ∀ ns : List Int, intsOf (ns.map D.int) = some ns
  | [] => rfl
  | a :: r => by
    simp only [List.map_cons]
    unfold intsOf
    rw [intsOf_map r]; rfl
theorem shps_ints (n : Nat) : ∀ ns : List Int, D.shps n (ns.map D.int) = true
  | [] => by unfold D.shps; rfl
  | a :: r => by
    simp only [List.map_cons]
    unfold D.shps
    rw [shps_ints n r]
    unfold D.shp; rfl
theorem memD_ints (i : Int) (ns : List Int) : memD (.int i) (ns.map D.int) = decide (i ∈ ns) := by
  unfold memD
  rw [List.any_map, Bool.eq_iff_iff, List.any_eq_true, decide_eq_true_eq]
  constructor
  · rintro ⟨x, h1, h2⟩
    simp only [Function.comp, D.eqv, beq_iff_eq] at h2
    rw [← h2]; exact h1
  · intro h
    exact ⟨i, h, by simp [D.eqv]⟩
theorem eqvs_ints : ∀ ns ms : List Int, D.eqvs (ns.map D.int) (ms.map D.int) = decide (ns = ms)
  | [], [] => by unfold D.eqvs; rfl
  | [], b :: ms => by simp [D.eqvs]
  | a :: ns, [] => by simp [D.eqvs]
  | a :: ns, b :: ms => by
    simp only [List.map_cons]
    unfold D.eqvs
    rw [eqvs_ints ns ms]
    simp only [D.eqv, List.cons.injEq, Bool.decide_and]
    rfl
theorem idxD_ints (i : Int) : ∀ ns : List Int, idxD (.int i) (ns.map D.int) = ns.findIdx? (· == i)
  | [] => rfl
  | a :: r => by
    simp only [List.map_cons]
    unfold idxD
    rw [idxD_ints i r, List.findIdx?_cons]
    by_cases h : a = i
    · subst h
      simp [D.eqv]
    · have h1 : (a == i) = false := by simpa using h
      simp [D.eqv, h]
theorem noRefs_ints : ∀ ns : List Int, D.noRefs (ns.map D.int) = true
  | [] => by unfold D.noRefs; rfl
  | a :: r => by
    simp only [List.map_cons]
    unfold D.noRefs
    rw [noRefs_ints r]
    unfold D.noRef; rfl
theorem bels_ints (n : Nat) (ns : List Int) : D.bels n (ns.map D.int) = true := D.bels_of_noRefs n _ (noRefs_ints ns)
/-- what a def's end gives of a value without cells -/
theorem leave_plain {frz : Bool} {n : Nat} {d : D} {S : Store} (h : D.bel n d = true) : leave frz n d S = .ok d (S.take n) := by unfold leave; rw [if_pos h]
theorem take_all {S : Store} : S.take S.length = S := List.take_length
theorem take_set {S : Store} {w : Nat} {c : Cell} : (S.set w c).take S.length = S.set w c := by
  have : S.length = (S.set w c).length := by rw [List.length_set]
  rw [this, List.take_length]
theorem take_app {S : Store} {r : Store} : (S ++ r).take S.length = S := by rw [List.take_left']; rfl
theorem get_app {S : Store} {w : Nat} {c : Cell} {r : Store} (h : S[w]? = some c) : (S ++ r)[w]? = some c := by
  rw [List.getElem?_append_left (List.getElem?_eq_some_iff.mp h).1]; exact h
theorem set_app {S : Store} {w : Nat} {c d : Cell} {r : Store} (h : S[w]? = some c) : (S ++ r).set w d = S.set w d ++ r := by
  rw [List.set_append_left _ _ (List.getElem?_eq_some_iff.mp h).1]
theorem get_set {S : Store} {w : Nat} {c d : Cell} (h : S[w]? = some c) : (S.set w d)[w]? = some d := List.getElem?_set_self (List.getElem?_eq_some_iff.mp h).1
theorem get_last {S : Store} {c : Cell} : (S ++ [c])[S.length]? = some c := by simp
theorem set_last {S : Store} {c d : Cell} : (S ++ [c]).set S.length d = S ++ [d] := by simp [List.set_append_right]
theorem len_set {S : Store} {w : Nat} {c : Cell} : (S.set w c).length = S.length := List.length_set
end G
end

section
set_option Elab.async false
set_option linter.all false
set_option maxRecDepth 100000
namespace G
open PySem PySem.Spec PyProof.Rows L2
/-! ### slices -/
theorem range_rev (n : Nat) : (List.range n).map (fun k => n - 1 - k) = (List.range n).reverse := by
  apply List.ext_getElem
  · simp
  · intro i h1 h2
    simp at h1 h2 ⊢
theorem pick_map {α : Type} (xs : List α) (f : Nat → Nat) (n : Nat) : pickL ((List.range n).map f) xs = (List.range n).filterMap fun k => xs[f k]? := by
  unfold pickL
  rw [List.filterMap_map]; rfl
theorem pick_range {α : Type} (xs : List α) : pickL (List.range xs.length) xs = xs := by
  unfold pickL
  induction xs with
  | nil => rfl
  | cons a r ih =>
    rw [List.length_cons, List.range_succ_eq_map, List.filterMap_cons]
    simp only [List.getElem?_cons_zero, List.filterMap_map]
    congr 1
theorem pick_rev {α : Type} (xs : List α) : pickL ((List.range xs.length).reverse) xs = xs.reverse := by
  have := pick_range xs
  unfold pickL at this ⊢
  rw [List.filterMap_reverse, this]
theorem tupIx_rev (n : Nat) : tupIx none none (-1) n = (List.range n).reverse := by
  rw [← range_rev]
  unfold tupIx Builtin.Slice.sliceAdjust Builtin.Slice.slicePlaces
  have h1 : ((-1 : Int) < 0) := by decide
  have h2 : ¬ ((-1 : Int) > 0) := by decide
  simp only [h1, h2, if_true, if_false]
  have e : ((if (n : Int) - 1 > -1 then ((n : Int) - 1 - -1 - 1) / (- -1) + 1 else 0) : Int).toNat = n := by
    split
    · have : (- (-1 : Int)) = 1 := by decide
      rw [this, Int.ediv_one]; omega
    · omega
  rw [e]
  apply List.map_congr_left
  intro k hk
  have := List.mem_range.mp hk
  omega
theorem listIx_rev (n : Nat) : listIx none none (-1) n = (List.range n).reverse := by
  rw [← range_rev]
  unfold listIx sliceBounds sliceRange
  have h2 : ¬ ((-1 : Int) > 0) := by decide
  simp only [Option.getD_some, h2, if_false]
  have e : ((if (n : Int) - 1 > -1 then ((n : Int) - 1 - -1 - -1 - 1) / (- -1) else 0) : Int).toNat = n := by
    split
    · have : (- (-1 : Int)) = 1 := by decide
      rw [this, Int.ediv_one]; omega
    · omega
  rw [e]
  apply List.map_congr_left
  intro k hk
  have := List.mem_range.mp hk
  omega
theorem oSt_revT (m : Bool) (xs : List D) (S : Store) (h : xs.length ≤ 16777216) : oSt m (.tup xs) none none (-1) S = .ok (.tup xs.reverse) S := by
  unfold oSt
  rw [if_neg (by decide)]
  simp only [tupIx_rev, pick_rev]
  rw [if_pos (by rw [List.length_reverse]; exact h)]
theorem oSt_revL (xs : List D) (S : Store) (h : xs.length ≤ 16777216) : oSt false (.lst xs) none none (-1) S = .ok (.lst xs.reverse) S := by
  unfold oSt
  rw [if_neg (by decide)]
  simp only [lstOf, listIx_rev, pick_rev]
  rw [if_pos (by rw [List.length_reverse]; exact h)]
  rfl
theorem cut_hi {α : Type} (xs : List α) (k : Nat) : cutD xs none (some (k : Int)) = xs.take k := by
  unfold cutD
  rw [HT.sIx_nat]
  simp only [HT.sIx, List.drop_zero, Nat.sub_zero]
  by_cases h : k ≤ xs.length
  · rw [Nat.min_eq_left h]
  · rw [Nat.min_eq_right (by omega), List.take_length, List.take_of_length_le (by omega)]
theorem cut_lo {α : Type} (xs : List α) (k : Nat) : cutD xs (some (k : Int)) none = xs.drop k := by
  unfold cutD
  rw [HT.sIx_nat]
  simp only [HT.sIx]
  by_cases h : k ≤ xs.length
  · rw [Nat.min_eq_left h, List.take_of_length_le (by rw [List.length_drop]; exact Nat.le_refl _)]
  · rw [Nat.min_eq_right (by omega), Nat.sub_self, List.drop_of_length_le (by omega : xs.length ≤ k)]; rfl
theorem cut_len {α : Type} (xs : List α) (lo hi : Option Int) : (cutD xs lo hi).length ≤ xs.length := by
  unfold cutD
  rw [List.length_take, List.length_drop]; omega
theorem cut_mem {α : Type} {xs : List α} {lo hi : Option Int} {x : α} (h : x ∈ cutD xs lo hi) : x ∈ xs := by
  unfold cutD at h
  exact List.mem_of_mem_drop (List.mem_of_mem_take h)
theorem cut_map {α β : Type} (f : α → β) (xs : List α) (lo hi : Option Int) : cutD (xs.map f) lo hi = (cutD xs lo hi).map f := by
  unfold cutD
  rw [List.length_map, List.map_take, List.map_drop]
theorem atI_nat {α : Type} (xs : List α) (k : Nat) (h : k < xs.length) : atI xs (k : Int) = some xs[k] := by
  unfold atI ixN
  rw [if_pos (by omega), if_pos (by omega)]
  simp [h]
theorem atI_map {α β : Type} (f : α → β) (xs : List α) (i : Int) : atI (xs.map f) i = (atI xs i).map f := by
  unfold atI
  rw [List.length_map]
  cases ixN xs.length i with
  | none => rfl
  | some j => simp
theorem atI_some {α : Type} {xs : List α} {i : Int} (h0 : 0 ≤ i) (h1 : i < xs.length) : ∃ x, atI xs i = some x ∧ x ∈ xs := by
  have e : i = ((i.toNat : Nat) : Int) := by omega
  rw [e, atI_nat xs i.toNat (by omega)]
  exact ⟨_, rfl, List.getElem_mem _⟩
theorem atI_last {α : Type} (xs : List α) (h : xs ≠ []) : atI xs (-1) = some (xs.getLast h) := by
  unfold atI ixN
  have : 0 < xs.length := List.length_pos_iff.mpr h
  rw [if_neg (by decide), if_pos (by omega)]
  have e : ((-1 : Int) + (xs.length : Int)).toNat = xs.length - 1 := by omega
  simp only [Option.bind_some, e]
  rw [List.getLast_eq_getElem]
  exact List.getElem?_eq_getElem _
theorem ixN_nat {n k : Nat} (h : k < n) : ixN n (k : Int) = some k := by
  unfold ixN
  rw [if_pos (by omega), if_pos (by omega)]
  simp
/-! ### permutations of 0 .. n - 1 -/
def rgI (n : Nat) : List Int := (List.range n).map fun (k : Nat) => (k : Int)
theorem rngD_rgI (n : Nat) : rngD 0 n = (rgI n).map D.int := by
  unfold rngD rgI
  rw [List.map_map]
  apply List.map_congr_left
  intro k _
  simp
theorem rgI_len (n : Nat) : (rgI n).length = n := by unfold rgI; simp
theorem rgI_mem {n : Nat} {i : Int} : i ∈ rgI n ↔ 0 ≤ i ∧ i < n := by
  unfold rgI
  rw [List.mem_map]
  constructor
  · rintro ⟨k, hk, rfl⟩
    have := List.mem_range.mp hk
    omega
  · intro h
    exact ⟨i.toNat, List.mem_range.mpr (by omega), by omega⟩
theorem rgI_sorted (n : Nat) : (rgI n).Pairwise (· ≤ ·) := by
  unfold rgI
  rw [List.pairwise_map]
  exact List.pairwise_lt_range.imp fun h => by omega
theorem rgI_nodup (n : Nat) : (rgI n).Nodup := by
  unfold rgI
  unfold List.Nodup
  rw [List.pairwise_map]
  exact List.pairwise_lt_range.imp fun h => by omega
theorem perm_of_sub {l m : List Int} (hl : l.Nodup) (hs : ∀ x ∈ l, x ∈ m) (hm : m.Nodup) (hn : l.length = m.length) : l.Perm m := by
  induction l generalizing m with
  | nil =>
    have : m = [] := List.length_eq_zero_iff.mp hn.symm
    rw [this]
  | cons a r ih =>
    have ha := hs a List.mem_cons_self
    have p := List.perm_cons_erase ha
    refine List.Perm.trans ?_ p.symm
    refine List.Perm.cons a (ih (List.nodup_cons.mp hl).2 (fun x hx => ?_) (hm.erase a) ?_)
    · have hne : x ≠ a := fun e => (List.nodup_cons.mp hl).1 (e ▸ hx)
      exact (List.mem_erase_of_ne hne).mpr (hs x (List.mem_cons_of_mem _ hx))
    · rw [List.length_erase_of_mem ha]
      simp at hn; omega
/-- the two ways to tell -/
theorem perm_iff_bounds {ns : List Int} {n : Nat} : ns.Perm (rgI n) ↔ ((∀ x ∈ ns, 0 ≤ x ∧ x < n) ∧ ns.length = n ∧ ns.Nodup) := by
  constructor
  · intro p
    exact ⟨fun x hx => rgI_mem.mp (p.mem_iff.mp hx), by rw [p.length_eq, rgI_len], p.nodup_iff.mpr (rgI_nodup n)⟩
  · intro ⟨h1, h2, h3⟩
    exact perm_of_sub h3 (fun x hx => rgI_mem.mpr (h1 x hx)) (rgI_nodup n) (by rw [h2, rgI_len])
theorem perm_iff_sort {ns : List Int} {n : Nat} : ns.Perm (rgI n) ↔ sortI ns = rgI n := by
  constructor
  · intro p
    exact (sortI_of p.symm (rgI_sorted n)).symm
  · intro h
    rw [← h]
    exact (sortI_perm ns).symm
/-- unlike, as the code tells it -/
theorem unlike_iff : ∀ (ns : List Int), ((List.range ns.length).all fun i => decide (ns.getD i 0 ∉ ns.take i)) = decide ns.Nodup := by
  intro ns
  rw [Bool.eq_iff_iff, List.all_eq_true, decide_eq_true_eq]
  unfold List.Nodup
  rw [List.pairwise_iff_getElem]
  constructor
  · intro h i j hi hj hij e
    have := of_decide_eq_true (h j (List.mem_range.mpr hj))
    rw [List.getD_eq_getElem?_getD, List.getElem?_eq_getElem hj, Option.getD_some, ← e] at this
    exact this (List.mem_take_iff_getElem.mpr ⟨i, by omega, rfl⟩)
  · intro h j hj
    have hj := List.mem_range.mp hj
    refine decide_eq_true fun hm => ?_
    obtain ⟨i, hi, e⟩ := List.mem_take_iff_getElem.mp hm
    rw [List.getD_eq_getElem?_getD, List.getElem?_eq_getElem hj, Option.getD_some] at e
    exact h i j (by omega) hj (by omega) e
end G
end

section
set_option Elab.async false
set_option linter.all false
set_option maxRecDepth 100000
namespace G
open PySem PySem.Spec PyProof.Rows L2
/-! ### steps of a reckoning -/
section
variable {Φ : Ph} {ρ ρ1 : Ro} {S S1 S2 S3 : Store} {a b c : Ev} {d x y z : D} {r : Ph → Ro → M (List D)} {ds : List D}
theorem args0 : aNil Φ ρ S = .ok [] S := rfl
theorem args_cons (h : a Φ ρ S = .ok x S1) (h2 : r Φ ρ S1 = .ok ds S2) : aCons a r Φ ρ S = .ok (x :: ds) S2 := by unfold aCons; rw [bind_of h, bind_of h2]; rfl
theorem pc (h : a Φ ρ S = .ok x S) (h2 : r Φ ρ S = .ok ds S) : aCons a r Φ ρ S = .ok (x :: ds) S := args_cons h h2
theorem args1 (h : a Φ ρ S = .ok x S1) : aCons a aNil Φ ρ S = .ok [x] S1 := args_cons h rfl
theorem args2 (h : a Φ ρ S = .ok x S1) (h2 : b Φ ρ S1 = .ok y S2) : aCons a (aCons b aNil) Φ ρ S = .ok [x, y] S2 := args_cons h (args1 h2)
theorem args3 (h : a Φ ρ S = .ok x S1) (h2 : b Φ ρ S1 = .ok y S2) (h3 : c Φ ρ S2 = .ok z S3) : aCons a (aCons b (aCons c aNil)) Φ ρ S = .ok [x, y, z] S3 := args_cons h (args2 h2 h3)
theorem call_of {op : List D → M D} (h : r Φ ρ S = .ok ds S1) : eCall op r Φ ρ S = op ds S1 := bind_of h
theorem call1 {f : D → M D} (h : a Φ ρ S = .ok x S1) : eCall (op1 f) (aCons a aNil) Φ ρ S = f x S1 := bind_of (args1 h)
theorem call2 {f : D → D → M D} (h : a Φ ρ S = .ok x S1) (h2 : b Φ ρ S1 = .ok y S2) : eCall (op2 f) (aCons a (aCons b aNil)) Φ ρ S = f x y S2 := bind_of (args2 h h2)
theorem fn_of' {i : Nat} (h : r Φ ρ S = .ok ds S1) : eFn i r Φ ρ S = Φ i ds S1 := bind_of h
theorem fn1 {i : Nat} (h : a Φ ρ S = .ok x S1) : eFn i (aCons a aNil) Φ ρ S = Φ i [x] S1 := bind_of (args1 h)
theorem fn2 {i : Nat} (h : a Φ ρ S = .ok x S1) (h2 : b Φ ρ S1 = .ok y S2) : eFn i (aCons a (aCons b aNil)) Φ ρ S = Φ i [x, y] S2 := bind_of (args2 h h2)
theorem fn3 {i : Nat} (h : a Φ ρ S = .ok x S1) (h2 : b Φ ρ S1 = .ok y S2) (h3 : c Φ ρ S2 = .ok z S3) : eFn i (aCons a (aCons b (aCons c aNil))) Φ ρ S = Φ i [x, y, z] S3 := bind_of (args3 h h2 h3)
theorem bin_of {op : D → D → M D} (h : a Φ ρ S = .ok x S1) (h2 : b Φ ρ S1 = .ok y S2) : eBin op a b Φ ρ S = op x y S2 := by unfold eBin; rw [bind_of h, bind_of h2]
theorem un_of {op : D → M D} (h : a Φ ρ S = .ok x S1) : eUn op a Φ ρ S = op x S1 := bind_of h
theorem and_t (h : a Φ ρ S = .ok (.bl true) S1) : eAnd a b Φ ρ S = b Φ ρ S1 := by unfold eAnd; rw [bind_of h, bind_of (show blM (.bl true) S1 = .ok true S1 from rfl)]; rfl
theorem and_f (h : a Φ ρ S = .ok (.bl false) S1) : eAnd a b Φ ρ S = .ok (.bl false) S1 := by unfold eAnd; rw [bind_of h, bind_of (show blM (.bl false) S1 = .ok false S1 from rfl)]; rfl
theorem or_t (h : a Φ ρ S = .ok (.bl true) S1) : eOr a b Φ ρ S = .ok (.bl true) S1 := by unfold eOr; rw [bind_of h, bind_of (show blM (.bl true) S1 = .ok true S1 from rfl)]; rfl
theorem or_f (h : a Φ ρ S = .ok (.bl false) S1) : eOr a b Φ ρ S = b Φ ρ S1 := by unfold eOr; rw [bind_of h, bind_of (show blM (.bl false) S1 = .ok false S1 from rfl)]; rfl
theorem and_of {p q : Bool} (h : a Φ ρ S = .ok (.bl p) S1) (h2 : p = true → b Φ ρ S1 = .ok (.bl q) S1) : eAnd a b Φ ρ S = .ok (.bl (p && q)) S1 := by
  cases p with
  | true => rw [and_t h, h2 rfl]; rfl
  | false => rw [and_f h]; rfl
theorem or_of {p q : Bool} (h : a Φ ρ S = .ok (.bl p) S1) (h2 : p = false → b Φ ρ S1 = .ok (.bl q) S1) : eOr a b Φ ρ S = .ok (.bl (p || q)) S1 := by
  cases p with
  | true => rw [or_t h]; rfl
  | false => rw [or_f h, h2 rfl]; rfl
theorem not_of' {p : Bool} (h : a Φ ρ S = .ok (.bl p) S1) : eNot a Φ ρ S = .ok (.bl (!p)) S1 := by unfold eNot; rw [bind_of h, bind_of (show truM (.bl p) S1 = .ok p S1 from rfl)]; rfl
theorem tv_of {p : Bool} (h : a Φ ρ S = .ok (.bl p) S1) : tvOf a Φ ρ S = .ok p S1 := by unfold tvOf; rw [bind_of h]; rfl
theorem tv_of' {p : Bool} (h : a Φ ρ S = .ok d S1) (h2 : truth d S1 = some p) : tvOf a Φ ρ S = .ok p S1 := by unfold tvOf; rw [bind_of h]; unfold truM; rw [h2]
theorem cmp_of {op : D → D → M D} {p : Bool} (h : a Φ ρ S = .ok x S1) (h2 : b Φ ρ S1 = .ok y S2) (h3 : op x y S2 = .ok (.bl p) S3) : tCmp op a b Φ ρ S = .ok p S3 := by unfold tCmp; rw [bind_of h, bind_of h2, bind_of h3]; rfl
theorem eif_t {t : Tv} (h : t Φ ρ S = .ok true S1) : eIf t a b Φ ρ S = a Φ ρ S1 := by unfold eIf; rw [bind_of h]; rfl
theorem eif_f {t : Tv} (h : t Φ ρ S = .ok false S1) : eIf t a b Φ ρ S = b Φ ρ S1 := by unfold eIf; rw [bind_of h]; rfl
theorem vnot_of {t : Tv} {p : Bool} (h : t Φ ρ S = .ok p S1) : vNot t Φ ρ S = .ok (!p) S1 := by unfold vNot; rw [bind_of h]; rfl
theorem vand_of {t u : Tv} {p q : Bool} (h : t Φ ρ S = .ok p S1) (h2 : p = true → u Φ ρ S1 = .ok q S1) : vAnd t u Φ ρ S = .ok (p && q) S1 := by
  unfold vAnd
  rw [bind_of h]
  cases p with
  | true => exact h2 rfl
  | false => rfl
theorem vor_of {t u : Tv} {p q : Bool} (h : t Φ ρ S = .ok p S1) (h2 : p = false → u Φ ρ S1 = .ok q S1) : vOr t u Φ ρ S = .ok (p || q) S1 := by
  unfold vOr
  rw [bind_of h]
  cases p with
  | true => rfl
  | false => exact h2 rfl
theorem isi_of {C t : String} (h : a Φ ρ S = .ok d S1) (h2 : tyName d S1 = some t) : vIsi C a Φ ρ S = .ok (.bl (kitT t C)) S1 := by
  unfold vIsi
  rw [bind_of h]
  show (match tyName d S1 with | some T => R.ok (D.bl (kitT T C)) S1 | none => .bad) = _
  rw [h2]
theorem ret_of (h : a Φ ρ S = .ok d S1) : sRet a Φ ρ S = .rt d S1 := to_of h
theorem asg_of {i : Nat} (h : a Φ ρ S = .ok d S1) : sAsg a (gmN (gNm i)) Φ ρ S = .nx (ρ.set i (some d)) S1 := to_of h
theorem asgG_of {g : Gm} (h : a Φ ρ S = .ok d S1) (h2 : g Φ d ρ S1 = .ok ρ1 S2) : sAsg a g Φ ρ S = .nx ρ1 S2 := by unfold sAsg; rw [to_of h, to_of h2]
theorem drop_of (h : a Φ ρ S = .ok d S1) : sDrop a Φ ρ S = .nx ρ S1 := to_of h
theorem sif_t {t : Tv} {u v : Sm} (h : t Φ ρ S = .ok true S1) : sIf t u v Φ ρ S = u Φ ρ S1 := by unfold sIf; rw [to_of h]; rfl
theorem sif_f {t : Tv} {u v : Sm} (h : t Φ ρ S = .ok false S1) : sIf t u v Φ ρ S = v Φ ρ S1 := by unfold sIf; rw [to_of h]; rfl
theorem par_of {is : List Nat} (h : r Φ ρ S = .ok ds S1) (h2 : setAll is ds ρ = some ρ1) : sPar is r Φ ρ S = .nx ρ1 S1 := by
  unfold sPar
  rw [to_of h]
  show (match setAll is ds ρ with | some ρ' => Rs.nx ρ' S1 | none => .bad) = _
  rw [h2]
theorem var_of {i : Nat} (h : ρ[i]? = some (some d)) : eVar i Φ ρ S = .ok d S := by
  unfold eVar
  show (match ρ[i]? with | some (some d) => R.ok d S | _ => .bad) = _
  rw [h]
theorem tup_of {n : Nat} (h : r Φ ρ S = .ok ds S1) (hz : ds.length ≤ 16777216) : eTup r n Φ ρ S = .ok (.tup ds) S1 := by unfold eTup; rw [bind_of h, if_pos hz]; rfl
theorem lst_of (h : r Φ ρ S = .ok ds S1) (hz : ds.length ≤ 16777216) : eLst false r Φ ρ S = .ok (.lst ds) S1 := by unfold eLst; rw [bind_of h, if_pos hz]; rfl
theorem src_of (h : a Φ ρ S = .ok d S1) : ((fun Φ ρ => (a Φ ρ).bind srcOf : Sv) Φ ρ S) = srcOf d S1 := bind_of h
theorem vsrc_of {f : List D → M Src} (h : r Φ ρ S = .ok ds S1) : vSrc f r Φ ρ S = f ds S1 := bind_of h
theorem so_of {i : Int} (h : a Φ ρ S = .ok (.int i) S1) : vSo a Φ ρ S = .ok (some i) S1 := by unfold vSo; rw [bind_of h]
theorem sl_of {m : Bool} {l u : Ov} {lo hi : Option Int} (h : a Φ ρ S = .ok x S1) (h2 : l Φ ρ S1 = .ok lo S2) (h3 : u Φ ρ S2 = .ok hi S3) : eSl m a l u Φ ρ S = oSl m x lo hi S3 := by unfold eSl; rw [bind_of h, bind_of h2, bind_of h3]
theorem st_of {m : Bool} {l u o : Ov} {lo hi : Option Int} {s : Int} {S4 : Store} (h : a Φ ρ S = .ok x S1) (h2 : l Φ ρ S1 = .ok lo S2) (h3 : u Φ ρ S2 = .ok hi S3) (h4 : o Φ ρ S3 = .ok (some s) S4) : eSt m a l u o Φ ρ S = oSt m x lo hi s S4 := by unfold eSt; rw [bind_of h, bind_of h2, bind_of h3, bind_of h4]
theorem mtT_of {opL opT : D → List D → M D} {xs : List D} (h : a Φ ρ S = .ok (.tup xs) S1) (h2 : r Φ ρ S1 = .ok ds S2) : eMt opL opT a r Φ ρ S = opT (.tup xs) ds S2 := by
  unfold eMt
  rw [bind_of h]
  exact bind_of h2
theorem mtL_of {opL opT : D → List D → M D} {xs : List D} (h : a Φ ρ S = .ok d S1) (hl : lstOf d S1 = some xs) (h2 : r Φ ρ S1 = .ok ds S2) : eMt opL opT a r Φ ρ S = opL d ds S2 := by
  unfold eMt
  rw [bind_of h]
  cases d with
  | tup _ => cases hl
  | _ => simp only [hl]; exact bind_of h2
end
section
variable {sv : Sv} {gv : Gv} {tv : Tv} {ev : Ev} {vs : List Nat} {Φ : Ph} {ρ : Ro} {S S1 : Store}
theorem lc1_filtM {α : Type} {t : Ro → M Bool} {e : Ro → M D} (g : α → D) (p : α → Bool) (f : α → D) : ∀ {l : List α}, (∀ x ∈ l, ∃ ρ1, gv (g x) ρ = some ρ1 ∧ t ρ1 S = .ok (p x) S ∧ (p x = true → e ρ1 S = .ok (f x) S)) → lc1 (M.ok ()) gv t e ρ ((l.map g).map M.ok) S = .ok ((l.filter p).map f) S
  | [], _ => rfl
  | x :: r, h => by
    obtain ⟨ρ1, h1, h2, h3⟩ := h x List.mem_cons_self
    have ih := lc1_filtM g p f fun y hy => h y (List.mem_cons_of_mem _ hy)
    rw [List.map_cons, List.map_cons]
    unfold lc1
    rw [bind_of (show (M.ok (g x) : M D) S = .ok (g x) S from rfl), bind_of (show tgM gv (g x) ρ S = .ok ρ1 S by unfold tgM; rw [h1]), bind_of h2]
    cases hp : p x with
    | false =>
      rw [List.filter_cons_of_neg (by rw [hp]; decide)]
      exact ih
    | true =>
      rw [List.filter_cons_of_pos hp]
      show M.bind (e ρ1) _ S = _
      rw [bind_of (h3 hp), bind_of ih]
      rfl
theorem eLc_filtM {α : Type} {l : List α} (g : α → D) (p : α → Bool) (f : α → D) (hs : sv Φ ρ S = .ok (fixS (l.map g)) S1) (hz : l.length ≤ 16777216) (h : ∀ x ∈ l, ∃ ρ1, gv (g x) (wipeR ρ vs) = some ρ1 ∧ tv Φ ρ1 S1 = .ok (p x) S1 ∧ (p x = true → ev Φ ρ1 S1 = .ok (f x) S1)) : eLc false sv gv tv ev vs Φ ρ S = .ok (.lst ((l.filter p).map f)) S1 := by
  unfold eLc
  rw [bind_of hs]
  show M.bind (lc1 (M.ok ()) gv (tv Φ) (ev Φ) (wipeR ρ vs) ((l.map g).map M.ok)) (lcF false) S1 = _
  rw [bind_of (lc1_filtM g p f h)]
  unfold lcF
  rw [if_pos (by rw [List.length_map]; exact Nat.le_trans (List.length_filter_le _ _) hz)]
  rfl
theorem eLc_mapM {α : Type} {l : List α} (g : α → D) (f : α → D) (hs : sv Φ ρ S = .ok (fixS (l.map g)) S1) (hz : l.length ≤ 16777216) (h : ∀ x ∈ l, ∃ ρ1, gv (g x) (wipeR ρ vs) = some ρ1 ∧ tv Φ ρ1 S1 = .ok true S1 ∧ ev Φ ρ1 S1 = .ok (f x) S1) : eLc false sv gv tv ev vs Φ ρ S = .ok (.lst (l.map f)) S1 := by
  rw [eLc_filtM g (fun _ => true) f hs hz fun x hx => let ⟨ρ1, a, b, c⟩ := h x hx; ⟨ρ1, a, b, fun _ => c⟩]
  rw [List.filter_eq_self.mpr fun _ _ => rfl]
end
theorem enumD_range (xs : List D) : ∀ k, enumD k xs = (List.range xs.length).map fun i => D.tpk [.int ((k + i : Nat)), xs.getD i .non] := by
  induction xs with
  | nil => intro k; rfl
  | cons a r ih =>
    intro k
    unfold enumD
    rw [ih (k + 1), List.length_cons, List.range_succ_eq_map, List.map_cons, List.map_map]
    congr 1
    apply List.map_congr_left
    intro i _
    simp only [Function.comp]
    congr 3
    omega
theorem getD_map_int (ns : List Int) (i : Nat) (h : i < ns.length) : (ns.map D.int).getD i .non = .int (ns.getD i 0) := by
  rw [List.getD_eq_getElem?_getD, List.getD_eq_getElem?_getD, List.getElem?_map, List.getElem?_eq_getElem h]; rfl
theorem enumD_ints (ns : List Int) : enumD 0 (ns.map D.int) = (List.range ns.length).map fun i => D.tpk [.int (i : Nat), .int (ns.getD i 0)] := by
  rw [enumD_range, List.length_map]
  apply List.map_congr_left
  intro i hi
  rw [getD_map_int ns i (List.mem_range.mp hi), Nat.zero_add]
theorem atI_ints (ns : List Int) (k : Nat) (h : k < ns.length) : atI (ns.map D.int) (k : Int) = some (.int (ns.getD k 0)) := by
  rw [atI_map, atI_nat ns k h, List.getD_eq_getElem?_getD, List.getElem?_eq_getElem h]; rfl
theorem rg1_of {Φ : Ph} {ρ : Ro} {S S1 : Store} {a : Ev} {k : Int → Int → M D} {n : Int} (h : a Φ ρ S = .ok (.int n) S1) : eRg1 k a Φ ρ S = k 0 n S1 := bind_of h
theorem sRng1_of {n : Int} {S : Store} (h : -1000000000 ≤ n ∧ n ≤ 1000000000) : sRng [.int n] S = .ok (fixS (rngD 0 n.toNat)) S := by
  unfold sRng
  exact if_pos ⟨Int.le_trans (by decide) h.1, Int.lt_of_le_of_lt h.2 (by decide)⟩
theorem sRng2_of {a b : Int} {S : Store} (h : (-1000000000 ≤ a ∧ a ≤ 1000000000) ∧ -1000000000 ≤ b ∧ b ≤ 1000000000) : sRng [.int a, .int b] S = .ok (fixS (rngD a (b - a).toNat)) S := by
  unfold sRng
  exact if_pos ⟨Int.le_trans (by decide) h.1.1, Int.lt_of_le_of_lt h.1.2 (by decide), Int.le_trans (by decide) h.2.1, Int.lt_of_le_of_lt h.2.2 (by decide)⟩
theorem kLst_of {m : Bool} {a b : Int} {S : Store} (h : (-1000000000 ≤ a ∧ a ≤ 1000000000) ∧ -1000000000 ≤ b ∧ b ≤ 1000000000 ∧ b - a ≤ 10000) : kLst m a b S = mkLst m (rngD a (b - a).toNat) S := by
  unfold kLst
  rw [if_pos]
  unfold rgB
  simp only [Bool.and_eq_true, decide_eq_true_eq]
  exact ⟨Int.le_trans (by decide) h.1.1, Int.lt_of_le_of_lt h.1.2 (by decide), Int.le_trans (by decide) h.2.1, Int.lt_of_le_of_lt h.2.2.1 (by decide), by omega⟩
/-! ### on values -/
theorem fLen_of {d : D} {S : Store} {xs : List D} (h : seqOf d S = some xs) : fLen d S = .ok (.int (xs.length : Nat)) S := by unfold fLen; rw [h]
theorem oIx_of {d x : D} {S : Store} {xs : List D} {i : Int} (h : seqOf d S = some xs) (h2 : atI xs i = some x) : oIx d (.int i) S = .ok x S := by
  unfold oIx
  show (match seqOf d S with | some xs => (match atI xs i with | some d => R.ok d S | none => .bad) | none => .bad) = _
  rw [h]
  show (match atI xs i with | some d => R.ok d S | none => .bad) = _
  rw [h2]
theorem oIn_of {d x : D} {S : Store} {xs : List D} (h : D.its d S = some xs) (h2 : (D.shp 30 (x.now S) && D.shps 30 xs) = true) : oNotIn x d S = .ok (.bl (!memD (x.now S) xs)) S ∧ oIn x d S = .ok (.bl (memD (x.now S) xs)) S := by
  constructor
  · unfold oNotIn oInG
    rw [h]
    show (if (D.shp 30 (x.now S) && D.shps 30 xs) = true then _ else _) = _
    rw [if_pos h2]; rfl
  · unfold oIn oInG
    rw [h]
    show (if (D.shp 30 (x.now S) && D.shps 30 xs) = true then _ else _) = _
    rw [if_pos h2]; rfl
theorem oAddT {xs ys : List D} {S : Store} (h : xs.length + ys.length ≤ 16777216) : oAdd (.tup xs) (.tup ys) S = .ok (.tup (xs ++ ys)) S := by
  unfold oAdd
  show (if xs.length + ys.length ≤ 16777216 then _ else _) = _
  rw [if_pos h]
theorem oAddL {xs ys : List D} {S : Store} (h : xs.length + ys.length ≤ 16777216) : oAdd (.lst xs) (.lst ys) S = .ok (.lst (xs ++ ys)) S := by
  unfold oAdd
  show (if xs.length + ys.length ≤ 16777216 then _ else _) = _
  rw [if_pos h]
theorem oSlT {m : Bool} {xs : List D} {lo hi : Option Int} {S : Store} : oSl m (.tup xs) lo hi S = .ok (.tup (cutD xs lo hi)) S := rfl
theorem oSlL {xs : List D} {lo hi : Option Int} {S : Store} : oSl false (.lst xs) lo hi S = .ok (.lst (cutD xs lo hi)) S := rfl
/-! cells -/
theorem seq_cell {S : Store} {w : Nat} {xs : List D} (h : S[w]? = some (.lst xs)) : seqOf (.ref w) S = some xs := by
  simp only [seqOf, lstOf, h]
theorem lst_cell {S : Store} {w : Nat} {xs : List D} (h : S[w]? = some (.lst xs)) : lstOf (.ref w) S = some xs := by
  simp only [lstOf, h]
theorem oIx_cell {S : Store} {w : Nat} {xs : List D} {i : Int} {d : D} (h : S[w]? = some (.lst xs)) (h2 : atI xs i = some d) : oIx (.ref w) (.int i) S = .ok d S := oIx_of (seq_cell h) h2
theorem oSet_cell {S : Store} {w j : Nat} {xs : List D} {i : Int} {v : D} (h : S[w]? = some (.lst xs)) (h2 : ixN xs.length i = some j) (h3 : D.bel w v = true) : oSet (.ref w) (.int i) v S = .ok () (S.set w (.lst (xs.set j v))) := by
  unfold oSet
  simp only [h, h2, h3, if_true]
theorem append_cell {S : Store} {w : Nat} {xs : List D} {v : D} (h : S[w]? = some (.lst xs)) (h2 : D.bel w v = true) (h3 : xs.length < 16777216) : mAppend (.ref w) [v] S = .ok .non (S.set w (.lst (xs ++ [v]))) := by
  unfold mAppend
  simp only [h, h2, decide_eq_true h3, Bool.and_self, if_true]
theorem pop_cell {S : Store} {w j : Nat} {xs : List D} {i : Int} {v : D} (h : S[w]? = some (.lst xs)) (h2 : ixN xs.length i = some j) (h3 : xs[j]? = some v) (h4 : -(2 ^ 63) ≤ i ∧ i < 2 ^ 63) : mPop (.ref w) [.int i] S = .ok v (S.set w (.lst (xs.eraseIdx j))) := by
  unfold mPop
  simp only [h, h2, h3]
  rw [if_pos h4]
theorem gmSub_of {Φ : Ph} {ρ : Ro} {S S1 S2 S3 : Store} {o i : Ev} {d x y : D} (h : o Φ ρ S = .ok x S1) (h2 : i Φ ρ S1 = .ok y S2) (h3 : oSet x y d S2 = .ok () S3) : gmSub o i Φ d ρ S = .ok ρ S3 := by unfold gmSub; rw [bind_of h, bind_of h2, bind_of h3]; rfl
theorem mul_ok {i j : Int} (h : (decide (-(2 ^ 64) < j) && decide (j < 2 ^ 64)) = true) (S : Store) : oMul (.int i) (.int j) S = .ok (.int (i * j)) S := by
  unfold oMul
  exact if_pos (by unfold cMulB; rw [h, Bool.or_true])
theorem mul_ok' {i j : Int} (h : (decide (-(2 ^ 64) < i) && decide (i < 2 ^ 64)) = true) (S : Store) : oMul (.int i) (.int j) S = .ok (.int (i * j)) S := by
  unfold oMul
  exact if_pos (by unfold cMulB; rw [h, Bool.true_or])
theorem mod_ok {i j : Int} (h : 0 < j) (S : Store) : oMod (.int i) (.int j) S = .ok (.int (i % j)) S := by
  unfold oMod oInt
  exact if_pos (decide_eq_true h)
theorem fdiv_ok {i j : Int} (h : 0 < j) (h2 : j < 1073741824) (S : Store) : oFdiv (.int i) (.int j) S = .ok (.int (i / j)) S := by
  unfold oFdiv oInt
  exact if_pos (by show (decide (0 < j) && decide (j < 1073741824)) = true; rw [decide_eq_true h, decide_eq_true h2]; rfl)
theorem divmod_ok {i j : Int} (h : 0 < j) (h2 : j < 1073741824) (S : Store) : fDivmod (.int i) (.int j) S = .ok (.tup [.int (i / j), .int (i % j)]) S := by
  unfold fDivmod
  exact if_pos ⟨h, h2⟩
theorem mk_new {ds : List D} {S : Store} (h : D.bels S.length ds = true) : mkLst true ds S = .ok (.ref S.length) (S ++ [.lst ds]) := by
  unfold mkLst
  rw [if_pos rfl, if_pos h]
theorem lstM_of {Φ : Ph} {ρ : Ro} {S S1 : Store} {r : Ph → Ro → M (List D)} {ds : List D} (h : r Φ ρ S = .ok ds S1) (hz : ds.length ≤ 16777216) (hb : D.bels S1.length ds = true) : eLst true r Φ ρ S = .ok (.ref S1.length) (S1 ++ [.lst ds]) := by
  unfold eLst
  rw [bind_of h, if_pos hz]
  exact mk_new hb
theorem run_of {N : List Str} {sv : Sm} {frz : Bool} {Φ : Ph} {ds : List D} {S S1 : Store} {d : D} (h : sv Φ (startR N ds) S = .rt d S1) : runF N sv frz Φ ds S = leave frz S.length d S1 := by
  unfold runF
  rw [h]
theorem leave_new {S : Store} {xs : List D} (h : D.bels S.length xs = true) : leave false S.length (.ref S.length) (S ++ [.lst xs]) = .ok (.ref S.length) (S ++ [.lst xs]) := by
  unfold leave
  rw [if_neg (by unfold D.bel; simp)]
  simp only [get_last, h, if_true]
  rw [take_app]
  rfl
theorem app2_get0 {A : Store} {n : Nat} {L F : Cell} (h : A.length = n) : (A ++ [L, F])[n]? = some L := by subst h; simp
theorem app2_get1 {A : Store} {n : Nat} {L F : Cell} (h : A.length = n) : (A ++ [L, F])[n + 1]? = some F := by subst h; simp
theorem app2_set0 {A : Store} {n : Nat} {L L' F : Cell} (h : A.length = n) : (A ++ [L, F]).set n L' = A ++ [L', F] := by subst h; simp [List.set_append_right]
theorem app2_set1 {A : Store} {n : Nat} {L F F' : Cell} (h : A.length = n) : (A ++ [L, F]).set (n + 1) F' = A ++ [L, F'] := by subst h; simp [List.set_append_right]
theorem erase_perm {α : Type} : ∀ {l : List α} {j : Nat} (h : j < l.length), (l[j] :: l.eraseIdx j).Perm l
  | a :: r, 0, h => .refl _
  | a :: r, j + 1, h => by
    simp only [List.getElem_cons_succ, List.eraseIdx_cons_succ]
    exact (List.Perm.swap a _ _).trans ((erase_perm (l := r) (j := j) (by simpa using h)).cons a)
theorem eraseIdx_map {α β : Type} (f : α → β) : ∀ (l : List α) (j : Nat), (l.map f).eraseIdx j = (l.eraseIdx j).map f
  | [], _ => rfl
  | a :: r, 0 => rfl
  | a :: r, j + 1 => by
    simp only [List.map_cons, List.eraseIdx_cons_succ]
    rw [eraseIdx_map f r j]
theorem fTuple_cell {S : Store} {w : Nat} {xs : List D} (h : S[w]? = some (.lst xs)) : fTuple (.ref w) S = .ok (.tup xs) S := by
  simp only [fTuple, lstOf, h]
theorem pick_len {α : Type} (ix : List Nat) (xs : List α) : (pickL ix xs).length ≤ ix.length := List.length_filterMap_le _ _
theorem pick_mapf {α β : Type} (f : α → β) (ix : List Nat) (xs : List α) : pickL ix (xs.map f) = (pickL ix xs).map f := by
  unfold pickL
  rw [List.map_filterMap]
  congr 1
  funext i
  rw [List.getElem?_map]
theorem oSt_T {m : Bool} {xs : List D} {lo hi : Option Int} {st : Int} {S : Store} (h : ¬ (st = 0 ∨ st = 1)) (hz : (tupIx lo hi st xs.length).length ≤ 16777216) : oSt m (.tup xs) lo hi st S = .ok (.tup (pickL (tupIx lo hi st xs.length) xs)) S := by
  unfold oSt
  rw [if_neg h]
  exact if_pos (Nat.le_trans (pick_len _ _) hz)
theorem cut_m1 {α : Type} (xs : List α) (h : 1 ≤ xs.length) : (cutD xs none (some (-1))).length = xs.length - 1 := by
  unfold cutD
  have e : HT.sIx xs.length xs.length (some (-1)) = xs.length - 1 := by
    simp only [HT.sIx]
    rw [if_pos (by decide)]; omega
  rw [e]
  show ((xs.drop 0).take (xs.length - 1 - 0)).length = _
  simp
theorem cut_l1 {α : Type} (xs : List α) (h : 1 ≤ xs.length) : (cutD xs (some (-1)) none).length = 1 := by
  unfold cutD
  have e : HT.sIx xs.length 0 (some (-1)) = xs.length - 1 := by
    simp only [HT.sIx]
    rw [if_pos (by decide)]; omega
  rw [e]
  show ((xs.drop (xs.length - 1)).take (xs.length - (xs.length - 1))).length = _
  simp; omega
theorem set_id {S : Store} {w : Nat} {c : Cell} (h : S[w]? = some c) : S.set w c = S := by
  obtain ⟨h1, h2⟩ := List.getElem?_eq_some_iff.mp h
  rw [← h2]; exact List.set_getElem_self h1
theorem forS_ex {gm : D → Ro → M Ro} {body : Ro → Store → Rs} {xs : List D} {ρ : Ro} {S : Store} {Q : Ro → Store → Prop} (Inv : List D → Ro → Store → Prop)
    (h : ∀ x r ρ S, Inv (x :: r) ρ S → ∃ ρ1 S1 ρ2 S2, gm x ρ S = .ok ρ1 S1 ∧ (body ρ1 S1 = .nx ρ2 S2 ∨ body ρ1 S1 = .ct ρ2 S2) ∧ Inv r ρ2 S2) (i : Inv xs ρ S) (k : ∀ ρ' S', Inv [] ρ' S' → Q ρ' S') :
    ∃ ρ' S', forS (M.ok ()) gm body (xs.map M.ok) ρ S = .nx ρ' S' ∧ Q ρ' S' :=
  let ⟨ρ', S', h1, h2⟩ := forS_inv Inv h i
  ⟨ρ', S', h1, k ρ' S' h2⟩
/-- what a def that tells a bool gives back -/
theorem run_bl {N : List Str} {sv : Sm} {frz : Bool} {Φ : Ph} {ds : List D} {S : Store} {b : Bool} (h : sv Φ (startR N ds) S = .rt (.bl b) S) : runF N sv frz Φ ds S = .ok (.bl b) S := by
  unfold runF
  rw [h]
  show leave frz S.length (.bl b) S = _
  rw [leave_plain rfl, List.take_length]
/-- .. a value without cells, the store as it was -/
theorem run_pl {N : List Str} {sv : Sm} {frz : Bool} {Φ : Ph} {ds : List D} {S : Store} {d : D} (h : sv Φ (startR N ds) S = .rt d S) (hb : D.bel S.length d = true) : runF N sv frz Φ ds S = .ok d S := by
  unfold runF
  rw [h]
  show leave frz S.length d S = _
  rw [leave_plain hb, List.take_length]
/-- .. and some store -/
theorem run_st {N : List Str} {sv : Sm} {frz : Bool} {Φ : Ph} {ds : List D} {S S1 : Store} {d : D} (h : sv Φ (startR N ds) S = .rt d S1) (hb : D.bel S.length d = true) : runF N sv frz Φ ds S = .ok d (S1.take S.length) := by
  unfold runF
  rw [h]
  show leave frz S.length d S1 = _
  rw [leave_plain hb]
theorem run_nx {N : List Str} {sv : Sm} {frz : Bool} {Φ : Ph} {ds : List D} {S : Store} {ρ : Ro} (h : sv Φ (startR N ds) S = .nx ρ S) : runF N sv frz Φ ds S = .ok .non S := by
  unfold runF
  rw [h]
  show leave frz S.length .non S = _
  rw [leave_plain rfl, List.take_length]
end G
end

section
set_option Elab.async false
set_option linter.all false
set_option maxRecDepth 100000
namespace G
open PySem PySem.Spec PyProof.Rows L2
/-! ### the stream of the laws k40 and on: [state, own, count] -/
def pool (a s t : Int) : Cell := .lst [.int a, .int s, .int t]
def IsPool (c : Cell) : Prop := ∃ a s t : Int, c = pool a s t
def DrawOK (f : List D → M D) : Prop := ∀ (S : Store) (w : Nat) (c : Cell) (many : Int), S[w]? = some c → IsPool c → 0 < many → many < 1073741824 → ∃ v c', f [.ref w, .int many] S = .ok (.int v) (S.set w c') ∧ IsPool c' ∧ 0 ≤ v ∧ v < many
abbrev drawT (M : Int) : Sm :=
    (sSeq
      (sIf (tCmp oGt (eBin oIx (eVar 0) (eC (D.int 1))) (eC (D.int 0)))
        (sSeq
          (sAsg (eCall (op2 fDivmod) (aCons (eBin oIx (eVar 0) (eC (D.int 1))) (aCons (eVar 1) aNil)))
            (gmTup (gsCons (gmSub (eVar 0) (eC (D.int 1))) (gsCons (gmN (gNm 2)) gsNil))))
          (sRet (eVar 2)))
        sNx)
      (sSeq (sAsg (eBin oAdd (eBin oIx (eVar 0) (eC (D.int 2))) (eC (D.int 1))) (gmSub (eVar 0) (eC (D.int 2))))
        (sSeq (sAsg (eCall (op1 fInt) (aCons (eBin oIx (eVar 0) (eC (D.int 0))) aNil)) (gmN (gNm 3)))
          (sSeq
            (sAsg
              (eBin oMod
                (eCall (op1 fInt)
                  (aCons
                    (eBin oAdd
                      (eBin oAdd
                        (eBin oMul (eVar 3) (eBin oAdd (eBin oMod (eVar 3) (eC (D.int 20011))) (eC (D.int 30011))))
                        (eBin oMul (eC (D.int 70001)) (eBin oIx (eVar 0) (eC (D.int 2)))))
                      (eC (D.int 9)))
                    aNil))
                (eC (D.int M)))
              (gmSub (eVar 0) (eC (D.int 0))))
            (sRet
              (eBin oMod
                (eCall (op1 fInt) (aCons (eBin oFdiv (eBin oIx (eVar 0) (eC (D.int 0))) (eC (D.int 128))) aNil))
                (eVar 1)))))))
theorem drawP {N : List Str} {frz : Bool} {Φ : Ph} {M : Int} (hM : 0 < M) (hN : ∀ x y, startR N [x, y] = [some x, some y, none, none]) : DrawOK (fun ds => runF N (drawT M) frz Φ ds) := by
  rintro S w c many h ⟨s, a, t, rfl⟩ m0 m1
  have i0 : ∀ {S : Store} {s a t : Int}, S[w]? = some (pool s a t) → oIx (.ref w) (.int 0) S = .ok (.int s) S := fun h => oIx_cell h rfl
  have i1 : ∀ {S : Store} {s a t : Int}, S[w]? = some (pool s a t) → oIx (.ref w) (.int 1) S = .ok (.int a) S := fun h => oIx_cell h rfl
  have i2 : ∀ {S : Store} {s a t : Int}, S[w]? = some (pool s a t) → oIx (.ref w) (.int 2) S = .ok (.int t) S := fun h => oIx_cell h rfl
  have c0 : tCmp oGt (eBin oIx (eVar 0) (eC (D.int 1))) (eC (D.int 0)) Φ [some (.ref w), some (.int many), none, none] S = .ok (decide (0 < a)) S := cmp_of ((bin_of rfl rfl).trans (i1 h)) rfl rfl
  by_cases ha : 0 < a
  · rw [decide_eq_true ha] at c0
    refine ⟨a % many, pool s (a / many) t, ?_, ⟨_, _, _, rfl⟩, Int.emod_nonneg _ (by omega), Int.emod_lt_of_pos _ m0⟩
    refine (run_st (S1 := S.set w (pool s (a / many) t)) (d := .int (a % many)) (by rw [hN]; exact seq_rt ((sif_t c0).trans ((seq_of (asgG_of (S2 := S.set w (pool s (a / many) t)) (ρ1 := [some (.ref w), some (.int many), some (.int (a % many)), none]) ((call2 ((bin_of rfl rfl).trans (i1 h)) rfl).trans (divmod_ok m0 m1 S)) (by
      show ((gmSub (eVar 0) (eC (D.int 1)) Φ (.int (a / many)) [some (.ref w), some (.int many), none, none]).bind fun ρ1 => gsCons (gmN (gNm 2)) gsNil Φ [.int (a % many)] ρ1) S = _
      rw [bind_of (gmSub_of rfl rfl (oSet_cell h (j := 1) rfl rfl))]
      rfl))).trans (ret_of rfl)))) rfl).trans (by rw [take_set])
  · rw [decide_eq_false ha] at c0
    have g1 := get_set (d := pool s a (t + 1)) h
    generalize hs : (s * (s % 20011 + 30011) + 70001 * (t + 1) + 9) % M = s2
    have g2 := get_set (d := pool s2 a (t + 1)) g1
    rw [List.set_set] at g2
    refine ⟨s2 / 128 % many, pool s2 a (t + 1), ?_, ⟨_, _, _, rfl⟩, Int.emod_nonneg _ (by omega), Int.emod_lt_of_pos _ m0⟩
    refine (run_st (d := .int (s2 / 128 % many)) (S1 := S.set w (pool s2 a (t + 1))) ?_ rfl).trans (by rw [take_set])
    rw [hN]
    refine (seq_of ((sif_f c0).trans rfl)).trans ?_
    refine (seq_of (asgG_of (ρ1 := [some (.ref w), some (.int many), none, none]) (S2 := S.set w (pool s a (t + 1))) (d := .int (t + 1)) (S1 := S) ((bin_of ((bin_of rfl rfl).trans (i2 h)) rfl).trans rfl) (gmSub_of rfl rfl (oSet_cell h (j := 2) rfl rfl)))).trans ?_
    refine (seq_of (asg_of ((call1 (x := .int s) (S1 := S.set w (pool s a (t + 1))) ((bin_of (x := .ref w) (y := .int 0) (S2 := S.set w (pool s a (t + 1))) rfl rfl).trans (i0 g1))).trans (show fInt (.int s) _ = .ok (.int s) (S.set w (pool s a (t + 1))) from rfl)))).trans ?_
    show sSeq _ _ Φ [some (.ref w), some (.int many), none, some (.int s)] _ = _
    refine (seq_of (asgG_of (ρ1 := [some (.ref w), some (.int many), none, some (.int s)]) (d := .int s2) (S1 := S.set w (pool s a (t + 1))) (S2 := S.set w (pool s2 a (t + 1))) ?_ ?_)).trans ?_
    · refine (bin_of (x := .int (s * (s % 20011 + 30011) + 70001 * (t + 1) + 9)) (y := .int M) ?_ rfl).trans ((mod_ok hM _).trans (by rw [hs]))
      refine (call1 (x := .int (s * (s % 20011 + 30011) + 70001 * (t + 1) + 9)) ?_).trans rfl
      refine (bin_of (x := .int (s * (s % 20011 + 30011) + 70001 * (t + 1))) (y := .int 9) ?_ rfl).trans rfl
      refine (bin_of (S1 := S.set w (pool s a (t + 1))) (x := .int (s * (s % 20011 + 30011))) (y := .int (70001 * (t + 1))) ?_ ?_).trans rfl
      · refine (bin_of (x := .int s) (y := .int (s % 20011 + 30011)) rfl ?_).trans (mul_ok ?_ _)
        · exact (bin_of (x := .int (s % 20011)) (y := .int 30011) (S1 := S.set w (pool s a (t + 1))) ((bin_of (x := .int s) (y := .int 20011) (S1 := S.set w (pool s a (t + 1))) rfl rfl).trans (mod_ok (by decide) _)) rfl).trans rfl
        · have := Int.emod_nonneg s (by decide : (20011 : Int) ≠ 0)
          have := Int.emod_lt_of_pos s (by decide : (0 : Int) < 20011)
          rw [decide_eq_true (by omega), decide_eq_true (by omega)]; rfl
      · exact (bin_of (x := .int 70001) (y := .int (t + 1)) rfl ((bin_of rfl rfl).trans (i2 g1))).trans (mul_ok' (by decide) _)
    · refine gmSub_of rfl rfl ((oSet_cell g1 (j := 0) rfl rfl).trans ?_)
      rw [List.set_set]; rfl
    · refine ret_of ((bin_of (x := .int (s2 / 128)) (y := .int many) ?_ rfl).trans (mod_ok m0 _))
      refine (call1 (x := .int (s2 / 128)) ?_).trans rfl
      exact (bin_of (x := .int s2) (y := .int 128) ((bin_of rfl rfl).trans (i0 g2)) rfl).trans (fdiv_ok (by decide) (by decide) _)
/-- one of some things -/
def PickOK (f : List D → M D) : Prop := ∀ (S : Store) (w : Nat) (c : Cell) (d : D) (xs : List D), S[w]? = some c → IsPool c → (∀ c, seqOf d (S.set w c) = some xs) → 1 ≤ xs.length → xs.length ≤ 1000000 → D.bels S.length xs = true → ∃ v c', ∃ h : v < xs.length, f [.ref w, d] S = .ok xs[v] (S.set w c') ∧ IsPool c'
theorem bel_get {n : Nat} : ∀ {xs : List D} {v : Nat} (h : v < xs.length), D.bels n xs = true → D.bel n xs[v] = true
  | a :: r, 0, h, q => by unfold D.bels at q; rw [Bool.and_eq_true] at q; exact q.1
  | a :: r, v + 1, h, q => by unfold D.bels at q; rw [Bool.and_eq_true] at q; exact bel_get (xs := r) (by simpa using h) q.2
theorem pickP {N : List Str} {frz : Bool} {Φ : Ph} {j : Nat} (hd : DrawOK (Φ j)) (hN : ∀ x y, startR N [x, y] = [some x, some y]) :
    PickOK (fun ds => runF N (sRet (eBin oIx (eVar 1) (eFn j (aCons (eVar 0) (aCons (eCall (op1 fLen) (aCons (eVar 1) aNil)) aNil))))) frz Φ ds) := by
  intro S w c d xs h hc hs l1 l2 hb
  obtain ⟨v, c', hv, hc', v0, v1⟩ := hd S w c (xs.length : Nat) h hc (by omega) (by omega)
  have hs0 : seqOf d S = some xs := by rw [← set_id h]; exact hs c
  obtain ⟨u, rfl⟩ : ∃ u : Nat, v = (u : Nat) := ⟨v.toNat, by omega⟩
  have hu : u < xs.length := by omega
  refine ⟨u, c', hu, (run_st (d := xs[u]) (S1 := S.set w c') ?_ (bel_get _ hb)).trans (by rw [take_set]), hc'⟩
  rw [hN]
  refine ret_of ((bin_of rfl ((fn2 rfl ((call1 rfl).trans (fLen_of hs0))).trans hv)).trans (oIx_of (hs c') ?_))
  exact atI_nat xs u hu
/-- a drawn order -/
def MixedOK (f : List D → M D) : Prop := ∀ (S : Store) (w : Nat) (c : Cell) (m : Nat), S[w]? = some c → IsPool c → m ≤ 1000 → ∃ (os : List Int) (c' : Cell), f [.ref w, .int (m : Nat)] S = .ok (.tup (os.map D.int)) (S.set w c') ∧ IsPool c' ∧ os.Perm (rgI m)
abbrev mixedT (j : Nat) (n : Str) : Sm :=
    (sSeq (sPar [2, 3] (aCons (eRg1 (kLst false) (eVar 1)) (aCons (eTup aNil 0) aNil)))
      (sSeq
        (sFor (vSrc sRng (aCons (eVar 1) aNil)) (gmN (gNm 4))
          (sSeq (sAsg (eFn j (aCons (eVar 0) (aCons (eVar 2) aNil))) (gmN (gNm 5)))
            (sPar [2, 3]
              (aCons
                (eLc false (fun Φ ρ => (eVar 2 Φ ρ).bind srcOf) (gNm 6) (tCmp oNe (eVar 6) (eVar 5)) (eVar 6)
                  (List.map (fun x => x.snd) [(n, 6)]))
                (aCons (eBin oAdd (eVar 3) (eTup (aCons (eVar 5) aNil) 0)) aNil)))))
        (sRet (eVar 3))))
theorem filter_ne {l : List Int} (nd : l.Nodup) {p : Int} (h : p ∈ l) : (l.filter (fun x => !(x == p))).length + 1 = l.length ∧ (p :: l.filter (fun x => !(x == p))).Perm l := by
  have e : l.filter (fun x => !(x == p)) = l.erase p := by
    rw [nd.erase_eq_filter]; rfl
  rw [e]
  have p1 := List.perm_cons_erase h
  exact ⟨by have := p1.length_eq; simp at this; omega, p1.symm⟩
theorem mixedP {N : List Str} {frz : Bool} {Φ : Ph} {j : Nat} {n : Str} (hd : PickOK (Φ j)) (hN : ∀ x y, startR N [x, y] = [some x, some y, none, none, none, none, none]) :
    MixedOK (fun ds => runF N (mixedT j n) frz Φ ds) := by
  intro S w c m h hc m8
  let Inv : List D → Ro → Store → Prop := fun r ρ S' => ∃ (left found : List Int) (c : Cell) (x4 x5 x6 : Option D), S' = S.set w c ∧ IsPool c ∧ (left ++ found).Perm (rgI m) ∧ left.length = r.length ∧ ρ = [some (.ref w), some (.int (m : Nat)), some (.lst (left.map D.int)), some (.tup (found.map D.int)), x4, x5, x6]
  have h1 : sPar [2, 3] (aCons (eRg1 (kLst false) (eVar 1)) (aCons (eTup aNil 0) aNil)) Φ [some (.ref w), some (.int (m : Nat)), none, none, none, none, none] S = .nx [some (.ref w), some (.int (m : Nat)), some (.lst ((rgI m).map D.int)), some (.tup []), none, none, none] S := by
    refine par_of (ds := [.lst ((rgI m).map D.int), .tup []]) (args2 (S1 := S) ?_ rfl) rfl
    refine (rg1_of rfl).trans ?_
    rw [kLst_of (by omega)]
    have e : (((m : Nat) : Int) - 0).toNat = m := by omega
    rw [e, rngD_rgI]; rfl
  obtain ⟨ρ', S', h2, left, found, c', x4, x5, x6, rfl, hc', hp, hl, rfl⟩ : ∃ ρ' S', sFor (vSrc sRng (aCons (eVar 1) aNil)) (gmN (gNm 4))
          (sSeq (sAsg (eFn j (aCons (eVar 0) (aCons (eVar 2) aNil))) (gmN (gNm 5)))
            (sPar [2, 3]
              (aCons
                (eLc false (fun Φ ρ => (eVar 2 Φ ρ).bind srcOf) (gNm 6) (tCmp oNe (eVar 6) (eVar 5)) (eVar 6)
                  (List.map (fun x => x.snd) [(n, 6)]))
                (aCons (eBin oAdd (eVar 3) (eTup (aCons (eVar 5) aNil) 0)) aNil)))) Φ [some (.ref w), some (.int (m : Nat)), some (.lst ((rgI m).map D.int)), some (.tup []), none, none, none] S = .nx ρ' S' ∧ Inv [] ρ' S' := by
    rw [sFor_of (xs := rngD 0 m) (S1 := S) ((vsrc_of (args1 rfl)).trans ((sRng1_of (by omega)).trans (by rw [Int.toNat_natCast])))]
    refine forS_inv Inv ?_ ⟨rgI m, [], c, none, none, none, (set_id h).symm, hc, by simp, by rw [rgI_len]; unfold rngD; simp, rfl⟩
    rintro x r ρ S' ⟨left, found, c, x4, x5, x6, rfl, hc, hp, hl, rfl⟩
    rw [List.length_cons] at hl
    have hll : left.length + found.length = m := by
      have := hp.length_eq
      rw [List.length_append, rgI_len] at this; exact this
    obtain ⟨v, c', hv, hp1, hc'⟩ := hd (S.set w c) w c (.lst (left.map D.int)) (left.map D.int) (get_set h) hc (fun _ => rfl) (by rw [List.length_map]; omega) (by rw [List.length_map]; omega) (bels_ints _ _)
    rw [List.set_set] at hp1
    have hv : v < left.length := by simpa using hv
    have hp1 : Φ j [.ref w, .lst (left.map D.int)] (S.set w c) = .ok (.int left[v]) (S.set w c') := by rw [hp1, List.getElem_map]
    have nd : left.Nodup := (List.nodup_append.mp (hp.nodup_iff.mpr (rgI_nodup m))).1
    obtain ⟨f1, f2⟩ := filter_ne nd (List.getElem_mem hv)
    refine ⟨_, _, [some (.ref w), some (.int (m : Nat)), some (.lst ((left.filter (fun x => !(x == left[v]))).map D.int)), some (.tup ((found ++ [left[v]]).map D.int)), some x, some (.int left[v]), x6], S.set w c', rfl, .inl ?_, left.filter (fun x => !(x == left[v])), found ++ [left[v]], c', some x, some (.int left[v]), x6, rfl, hc', ?_, by omega, rfl⟩
    · refine (seq_of (asg_of ((fn2 rfl rfl).trans hp1))).trans ?_
      refine par_of (args2 (S1 := S.set w c') (eLc_filtM (S1 := S.set w c') (l := left) D.int (fun x => !(x == left[v])) D.int rfl (by omega) fun y hy => ⟨[some (.ref w), some (.int (m : Nat)), some (.lst (left.map D.int)), some (.tup (found.map D.int)), some x, some (.int left[v]), some (.int y)], rfl, cmp_of rfl rfl ?_, fun _ => rfl⟩) ((bin_of rfl (tup_of (args1 rfl) (by simp))).trans ((oAddT (by rw [List.length_map]; simp; omega)).trans (by rw [show [D.int left[v]] = [left[v]].map D.int from rfl, ← List.map_append])))) rfl
      rfl
    · refine List.Perm.trans ?_ hp
      rw [← List.append_assoc]
      refine List.perm_append_comm.trans ?_
      show ((left[v] :: []) ++ (left.filter (fun x => !(x == left[v])) ++ found)).Perm (left ++ found)
      rw [← List.append_assoc]
      exact List.Perm.append_right found f2
  have hnil : left = [] := List.length_eq_zero_iff.mp hl
  subst hnil
  refine ⟨found, c', (run_st (d := .tup (found.map D.int)) (S1 := S.set w c') ?_ (by show D.bels _ _ = true; exact bels_ints _ _)).trans (by rw [take_set]), hc', by simpa using hp⟩
  rw [hN]
  exact (seq_of h1).trans ((seq_of h2).trans (ret_of rfl))
/-- where draws come from -/
abbrev poolT (A B M E : Int) : Sm :=
    (sSeq
      (sPar [2, 3]
        (aCons
          (eIf (tCmp oLt (eVar 1) (eCall (op1 fLen) (aCons (eVar 0) aNil)))
            (eCall (op1 fInt) (aCons (eBin oIx (eVar 0) (eVar 1)) aNil))
            (eBin oAdd (eBin oMul (eC (D.int 70001)) (eVar 1)) (eC (D.int A))))
          (aCons (eBin oAdd (eC (D.int B)) (eBin oMul (eC (D.int 5087)) (eVar 1))) aNil)))
      (sSeq
        (sFor (fun Φ ρ => (eSl false (eVar 0) vNo (vSo (eC (D.int 63))) Φ ρ).bind srcOf) (gmN (gNm 4))
          (sAsg
            (eBin oMod
              (eCall (op1 fInt)
                (aCons
                  (eBin oAdd
                    (eBin oAdd (eBin oMul (eVar 3) (eC (D.int 48271)))
                      (eBin oMod (eCall (op1 fInt) (aCons (eVar 4) aNil)) (eC (D.int M))))
                    (eC (D.int E)))
                  aNil))
              (eC (D.int M)))
            (gmN (gNm 3))))
        (sRet
          (eLst true
            (aCons
              (eBin oMod (eCall (op1 fInt) (aCons (eBin oAdd (eVar 3) (eBin oMul (eVar 2) (eC (D.int 1013)))) aNil))
                (eC (D.int M)))
              (aCons
                (eIf
                  (vOr (tCmp oLt (eVar 2) (eC (D.int 0)))
                    (tCmp oGe (eVar 2) (eBin oPow (eC (D.int 10)) (eC (D.int 18)))))
                  (eCall (op1 fAbs) (aCons (eVar 2) aNil)) (eC (D.int 0)))
                (aCons (eC (D.int 0)) aNil)))))))
theorem poolP {N : List Str} {Φ : Ph} {A B M E : Int} (hM : 0 < M) (hN : ∀ x y, startR N [x, y] = [some x, some y, none, none, none]) {ns : List Int} (hn : ns.length ≤ 63) (lap : Nat) (S : Store) :
    ∃ c, runF N (poolT A B M E) false Φ [rolI ns, .int (lap : Nat)] S = .ok (.ref S.length) (S ++ [c]) ∧ IsPool c := by
  have c : tCmp oLt (eVar 1) (eCall (op1 fLen) (aCons (eVar 0) aNil)) Φ [some (rolI ns), some (.int (lap : Nat)), none, none, none] S = .ok (decide ((lap : Int) < (ns.length : Nat))) S := by
    refine cmp_of rfl ((call1 rfl).trans (fLen_of rfl)) ?_
    rw [List.length_map]; rfl
  obtain ⟨own, h1⟩ : ∃ own : Int, eIf (tCmp oLt (eVar 1) (eCall (op1 fLen) (aCons (eVar 0) aNil))) (eCall (op1 fInt) (aCons (eBin oIx (eVar 0) (eVar 1)) aNil)) (eBin oAdd (eBin oMul (eC (D.int 70001)) (eVar 1)) (eC (D.int A))) Φ [some (rolI ns), some (.int (lap : Nat)), none, none, none] S = .ok (.int own) S := by
    by_cases hlap : (lap : Int) < (ns.length : Nat)
    · rw [decide_eq_true hlap] at c
      exact ⟨ns.getD lap 0, (eif_t c).trans ((call1 ((bin_of rfl rfl).trans (oIx_of rfl (atI_ints ns lap (by omega))))).trans rfl)⟩
    · rw [decide_eq_false hlap] at c
      exact ⟨_, (eif_f c).trans ((bin_of ((bin_of rfl rfl).trans (mul_ok' (by decide) S)) rfl).trans rfl)⟩
  have h2 : eBin oAdd (eC (D.int B)) (eBin oMul (eC (D.int 5087)) (eVar 1)) Φ [some (rolI ns), some (.int (lap : Nat)), none, none, none] S = .ok (.int (B + 5087 * (lap : Nat))) S :=
    (bin_of rfl ((bin_of rfl rfl).trans (mul_ok' (by decide) S))).trans rfl
  obtain ⟨ρ', S', h3, rfl, st, x4, rfl⟩ : ∃ ρ' S', sFor (fun Φ ρ => (eSl false (eVar 0) vNo (vSo (eC (D.int 63))) Φ ρ).bind srcOf) (gmN (gNm 4))
          (sAsg
            (eBin oMod
              (eCall (op1 fInt)
                (aCons
                  (eBin oAdd
                    (eBin oAdd (eBin oMul (eVar 3) (eC (D.int 48271)))
                      (eBin oMod (eCall (op1 fInt) (aCons (eVar 4) aNil)) (eC (D.int M))))
                    (eC (D.int E)))
                  aNil))
              (eC (D.int M)))
            (gmN (gNm 3))) Φ [some (rolI ns), some (.int (lap : Nat)), some (.int own), some (.int (B + 5087 * (lap : Nat))), none] S = .nx ρ' S' ∧ S' = S ∧ ∃ (st : Int) (x4 : Option D), ρ' = [some (rolI ns), some (.int (lap : Nat)), some (.int own), some (.int st), x4] := by
    have hs : (fun Φ ρ => (eSl false (eVar 0) vNo (vSo (eC (D.int 63))) Φ ρ).bind srcOf : Sv) Φ [some (rolI ns), some (.int (lap : Nat)), some (.int own), some (.int (B + 5087 * (lap : Nat))), none] S = .ok (fixS (ns.map D.int)) S := by
      refine (src_of ((sl_of rfl rfl (so_of rfl)).trans (show oSl false (rolI ns) none (some 63) S = .ok (.lst (ns.map D.int)) S by
        show R.ok (D.lst (cutD (ns.map D.int) none (some ((63 : Nat) : Int)))) S = _
        rw [cut_map, cut_hi, List.take_of_length_le hn]))).trans rfl
    rw [sFor_of hs]
    refine forS_ex (fun r ρ S' => S' = S ∧ (∀ x ∈ r, ∃ i, x = .int i) ∧ ∃ (st : Int) (x4 : Option D), ρ = [some (rolI ns), some (.int (lap : Nat)), some (.int own), some (.int st), x4]) ?_ ⟨rfl, fun x hx => ?_, _, _, rfl⟩ fun ρ' S' ⟨q1, _, q3⟩ => ⟨q1, q3⟩
    · rintro x r ρ S' ⟨rfl, hx, st, x4, rfl⟩
      obtain ⟨i, rfl⟩ := hx x List.mem_cons_self
      refine ⟨_, S', [some (rolI ns), some (.int (lap : Nat)), some (.int own), some (.int ((st * 48271 + i % M + E) % M)), some (.int i)], S', rfl, .inl ?_, rfl, fun y hy => hx y (List.mem_cons_of_mem _ hy), _, _, rfl⟩
      refine asg_of ((bin_of (x := .int (st * 48271 + i % M + E)) (y := .int M) ?_ rfl).trans (mod_ok hM _))
      refine (call1 (x := .int (st * 48271 + i % M + E)) ?_).trans rfl
      refine (bin_of (x := .int (st * 48271 + i % M)) (y := .int E) ?_ rfl).trans rfl
      refine (bin_of (S1 := S') (x := .int (st * 48271)) (y := .int (i % M)) ?_ ?_).trans rfl
      · exact (bin_of (x := .int st) (y := .int 48271) rfl rfl).trans (mul_ok (by decide) _)
      · refine (bin_of (x := .int i) (y := .int M) (S1 := S') ?_ rfl).trans (mod_ok hM _)
        exact (call1 rfl).trans rfl
    · obtain ⟨i, _, rfl⟩ := List.mem_map.mp hx
      exact ⟨i, rfl⟩
  have h5 : eBin oMod (eCall (op1 fInt) (aCons (eBin oAdd (eVar 3) (eBin oMul (eVar 2) (eC (D.int 1013)))) aNil)) (eC (D.int M)) Φ [some (rolI ns), some (.int (lap : Nat)), some (.int own), some (.int st), x4] S' = .ok (.int ((st + own * 1013) % M)) S' := by
    refine (bin_of (x := .int (st + own * 1013)) (y := .int M) ?_ rfl).trans (mod_ok hM _)
    refine (call1 (x := .int (st + own * 1013)) ?_).trans rfl
    exact (bin_of (x := .int st) (y := .int (own * 1013)) (S1 := S') rfl ((bin_of rfl rfl).trans (mul_ok (by decide) _))).trans rfl
  obtain ⟨a, h4⟩ : ∃ a : Int, eIf (vOr (tCmp oLt (eVar 2) (eC (D.int 0))) (tCmp oGe (eVar 2) (eBin oPow (eC (D.int 10)) (eC (D.int 18))))) (eCall (op1 fAbs) (aCons (eVar 2) aNil)) (eC (D.int 0)) Φ [some (rolI ns), some (.int (lap : Nat)), some (.int own), some (.int st), x4] S' = .ok (.int a) S' := by
    have hc : vOr (tCmp oLt (eVar 2) (eC (D.int 0))) (tCmp oGe (eVar 2) (eBin oPow (eC (D.int 10)) (eC (D.int 18)))) Φ [some (rolI ns), some (.int (lap : Nat)), some (.int own), some (.int st), x4] S' = .ok (decide (own < 0) || decide ((10 ^ 18 : Int) ≤ own)) S' := by
      refine vor_of (cmp_of rfl rfl rfl) fun _ => cmp_of (S2 := S') (y := .int (10 ^ 18)) rfl ?_ rfl
      refine (bin_of rfl rfl).trans ?_
      unfold oPow oInt
      exact if_pos (by decide)
    cases hb : (decide (own < 0) || decide ((10 ^ 18 : Int) ≤ own)) with
    | true => rw [hb] at hc; exact ⟨_, (eif_t hc).trans ((call1 rfl).trans rfl)⟩
    | false => rw [hb] at hc; exact ⟨_, (eif_f hc).trans rfl⟩
  refine ⟨pool ((st + own * 1013) % M) a 0, ?_, ⟨_, _, _, rfl⟩⟩
  refine (run_of (S1 := S' ++ [pool ((st + own * 1013) % M) a 0]) (d := .ref S'.length) ?_).trans (leave_new rfl)
  rw [hN]
  refine (seq_of (par_of (args2 h1 h2) rfl)).trans ?_
  refine (seq_of h3).trans ?_
  exact ret_of (lstM_of (args3 h5 h4 rfl) (by simp) rfl)
end G
end

section
set_option Elab.async false
set_option linter.all false
set_option maxRecDepth 100000
namespace G
open PySem PySem.Spec PyProof.Rows L2
/-! ### matrices in the making: rows of cells -/
abbrev Mx := List (List Int)
def matC (M : Mx) : List Cell := M.map fun r => .lst (r.map D.int)
def refs (b n : Nat) : List D := (List.range n).map fun i => .ref (b + i)
def getM (M : Mx) (i j : Nat) : Int := (M.getD i []).getD j 0
def setM (M : Mx) (i j : Nat) (v : Int) : Mx := M.set i ((M.getD i []).set j v)
/-- n rows of n numbers -/
def Sq (n : Nat) (M : Mx) : Prop := M.length = n ∧ ∀ r ∈ M, r.length = n
theorem Sq.row {n : Nat} {M : Mx} (h : Sq n M) {i : Nat} (hi : i < n) : (M.getD i []).length = n := by
  have hi' : i < M.length := by rw [h.1]; exact hi
  rw [List.getD_eq_getElem?_getD, List.getElem?_eq_getElem hi', Option.getD_some]
  exact h.2 _ (List.getElem_mem hi')
theorem Sq.set {n : Nat} {M : Mx} (h : Sq n M) {i j : Nat} {v : Int} (hi : i < n) : Sq n (setM M i j v) := by
  refine ⟨by unfold setM; rw [List.length_set]; exact h.1, fun r hr => ?_⟩
  unfold setM at hr
  rcases List.mem_or_eq_of_mem_set hr with hr | rfl
  · exact h.2 r hr
  · rw [List.length_set]; exact h.row hi
theorem getM_set {n : Nat} {M : Mx} (h : Sq n M) {i j p q : Nat} {v : Int} (hi : i < n) (hj : j < n) : getM (setM M i j v) p q = if p = i ∧ q = j then v else getM M p q := by
  unfold getM setM
  have hl : i < M.length := by rw [h.1]; exact hi
  have hr := h.row hi
  by_cases e : p = i
  · subst e
    have e1 : (M.set p ((M.getD p []).set j v)).getD p [] = (M.getD p []).set j v := by
      rw [List.getD_eq_getElem?_getD, List.getElem?_set_self hl, Option.getD_some]
    rw [e1]
    by_cases f : q = j
    · subst f
      rw [if_pos ⟨rfl, rfl⟩, List.getD_eq_getElem?_getD, List.getElem?_set_self (by omega), Option.getD_some]
    · rw [if_neg fun z => f z.2, List.getD_eq_getElem?_getD, List.getElem?_set_ne (by omega), ← List.getD_eq_getElem?_getD]
  · rw [if_neg fun z => e z.1]
    congr 1
    rw [List.getD_eq_getElem?_getD, List.getElem?_set_ne (by omega), ← List.getD_eq_getElem?_getD]
theorem matC_len (M : Mx) : (matC M).length = M.length := by unfold matC; simp
theorem cell_row {A : Store} {M : Mx} {i : Nat} (hi : i < M.length) : (A ++ matC M)[A.length + i]? = some (.lst ((M.getD i []).map D.int)) := by
  rw [List.getElem?_append_right (by omega)]
  have e : A.length + i - A.length = i := by omega
  rw [e]
  unfold matC
  rw [List.getElem?_map, List.getElem?_eq_getElem hi, List.getD_eq_getElem?_getD, List.getElem?_eq_getElem hi]
  rfl
theorem set_row {A : Store} {M : Mx} {i : Nat} (r : List Int) (hi : i < M.length) : (A ++ matC M).set (A.length + i) (.lst (r.map D.int)) = A ++ matC (M.set i r) := by
  rw [List.set_append_right _ _ (by omega)]
  have e : A.length + i - A.length = i := by omega
  rw [e]
  unfold matC
  rw [List.map_set]
theorem refs_at {b n i : Nat} (hi : i < n) : atI (refs b n) ((i : Nat) : Int) = some (.ref (b + i)) := by
  rw [atI_nat _ i (by unfold refs; simpa using hi)]
  unfold refs; simp
theorem oIx_refs {b n i : Nat} {S : Store} (hi : i < n) : oIx (.lst (refs b n)) (.int (i : Nat)) S = .ok (.ref (b + i)) S := oIx_of rfl (refs_at hi)
section
variable {Φ : Ph} {ρ : Ro} {A : Store} {M : Mx} {n i j : Nat} {a x y : Ev}
/-- rows[i][j] -/
theorem read2 (sq : Sq n M) (h : a Φ ρ (A ++ matC M) = .ok (.lst (refs A.length n)) (A ++ matC M)) (h1 : x Φ ρ (A ++ matC M) = .ok (.int (i : Nat)) (A ++ matC M)) (h2 : y Φ ρ (A ++ matC M) = .ok (.int (j : Nat)) (A ++ matC M)) (hi : i < n) (hj : j < n) :
    eBin oIx (eBin oIx a x) y Φ ρ (A ++ matC M) = .ok (.int (getM M i j)) (A ++ matC M) := by
  refine (bin_of ((bin_of h h1).trans (oIx_refs hi)) h2).trans ?_
  exact oIx_cell (cell_row (by rw [sq.1]; exact hi)) (atI_ints _ j (by rw [sq.row hi]; exact hj))
/-- rows[i][j] = .. -/
theorem write2 (sq : Sq n M) {v : Int} (h : a Φ ρ (A ++ matC M) = .ok (.lst (refs A.length n)) (A ++ matC M)) (h1 : x Φ ρ (A ++ matC M) = .ok (.int (i : Nat)) (A ++ matC M)) (h2 : y Φ ρ (A ++ matC M) = .ok (.int (j : Nat)) (A ++ matC M)) (hi : i < n) (hj : j < n) :
    gmSub (eBin oIx a x) y Φ (.int v) ρ (A ++ matC M) = .ok ρ (A ++ matC (setM M i j v)) := by
  refine gmSub_of ((bin_of h h1).trans (oIx_refs hi)) h2 ?_
  rw [oSet_cell (cell_row (by rw [sq.1]; exact hi)) (ixN_nat (by rw [List.length_map, sq.row hi]; exact hj)) rfl, ← List.map_set, set_row _ (by rw [sq.1]; exact hi)]
  rfl
/-- the pool below, drawn from -/
theorem setA {w : Nat} {c d : Cell} {B : Store} (h : A[w]? = some c) : (A ++ B).set w d = A.set w d ++ B := set_app h
end
def zeroM (n : Nat) : Mx := List.replicate n (List.replicate n 0)
theorem zero_sq (n : Nat) : Sq n (zeroM n) := ⟨by unfold zeroM; simp, fun r hr => by unfold zeroM at hr; rw [(List.mem_replicate.mp hr).2]; simp⟩
theorem zero_get {n i j : Nat} : getM (zeroM n) i j = 0 := by
  unfold getM zeroM
  rw [List.getD_eq_getElem?_getD, List.getD_eq_getElem?_getD, List.getElem?_replicate]
  split
  · rw [Option.getD_some, List.getElem?_replicate]; split <;> rfl
  · rfl
theorem refs_succ (b n : Nat) : refs b (n + 1) = .ref b :: refs (b + 1) n := by
  unfold refs
  rw [List.range_succ_eq_map, List.map_cons, List.map_map]
  congr 1
  refine List.map_congr_left fun i _ => ?_
  show D.ref (b + (i + 1)) = D.ref (b + 1 + i)
  congr 1; omega
/-- [[0] * n for ..] : cells one behind the other -/
theorem lc1_cells {gv : Gv} {t : Ro → M Bool} {e : Ro → M D} {ρ : Ro} {xs0 : List D} : ∀ {xs : List D} {S : Store}, (∀ x ∈ xs, ∀ S, ∃ ρ1, gv x ρ = some ρ1 ∧ t ρ1 S = .ok true S ∧ e ρ1 S = .ok (.ref S.length) (S ++ [.lst xs0])) →
    lc1 (M.ok ()) gv t e ρ (xs.map M.ok) S = .ok (refs S.length xs.length) (S ++ List.replicate xs.length (.lst xs0))
  | [], S, _ => by
    rw [List.length_nil, List.replicate_zero, List.append_nil]; rfl
  | x :: r, S, h => by
    obtain ⟨ρ1, h1, h2, h3⟩ := h x List.mem_cons_self S
    have ih := lc1_cells (xs := r) (S := S ++ [.lst xs0]) fun z hz => h z (List.mem_cons_of_mem _ hz)
    rw [List.map_cons]
    unfold lc1
    rw [bind_of (show (M.ok x : M D) S = .ok x S from rfl), bind_of (show tgM gv x ρ S = .ok ρ1 S by unfold tgM; rw [h1]), bind_of h2]
    show M.bind (e ρ1) _ S = _
    rw [bind_of h3, bind_of ih]
    show R.ok (D.ref S.length :: refs (S ++ [Cell.lst xs0]).length r.length) _ = _
    rw [List.length_cons, refs_succ, List.length_append, List.replicate_succ, List.append_assoc]
    rfl
theorem mulM_zero {n : Nat} {S : Store} (h : n ≤ 1000) : oMulM (.lst [.int 0]) (.int (n : Nat)) S = .ok (.ref S.length) (S ++ [.lst ((List.replicate n (0 : Int)).map D.int)]) := by
  unfold oMulM
  show (if -(2 ^ 63) ≤ ((n : Nat) : Int) ∧ ((n : Nat) : Int) < 2 ^ 63 ∧ [D.int 0].length * ((n : Nat) : Int).toNat ≤ 16777216 then mkLst true (List.replicate ((n : Nat) : Int).toNat [D.int 0]).flatten S else .bad) = _
  rw [if_pos ⟨by omega, by omega, by simp; omega⟩, Int.toNat_natCast]
  have e : (List.replicate n [D.int 0]).flatten = (List.replicate n (0 : Int)).map D.int := by
    rw [List.map_replicate]
    induction n with
    | zero => rfl
    | succ k ih => rw [List.replicate_succ, List.flatten_cons, ih (by omega), List.replicate_succ]; rfl
  rw [e]
  exact mk_new (bels_ints _ _)
theorem zeroP {sv : Sv} {gv : Gv} {ev : Ev} {vs : List Nat} {Φ : Ph} {ρ : Ro} {S : Store} {xs : List D} {n : Nat} (hn : n ≤ 1000) (hx : xs.length = n) (hs : sv Φ ρ S = .ok (fixS xs) S) (h : ∀ x ∈ xs, ∀ S, ∃ ρ1, gv x (wipeR ρ vs) = some ρ1 ∧ ev Φ ρ1 S = .ok (.int (n : Nat)) S) :
    eLc false sv gv vYes (eBin oMulM (eLst false (aCons (eC (D.int 0)) aNil)) ev) vs Φ ρ S = .ok (.lst (refs S.length n)) (S ++ matC (zeroM n)) := by
  unfold eLc
  rw [bind_of hs]
  show M.bind (lc1 (M.ok ()) gv (vYes Φ) _ (wipeR ρ vs) (xs.map M.ok)) (lcF false) S = _
  have q := lc1_cells (gv := gv) (t := vYes Φ) (e := eBin oMulM (eLst false (aCons (eC (D.int 0)) aNil)) ev Φ) (ρ := wipeR ρ vs) (xs0 := (List.replicate n (0 : Int)).map D.int) (xs := xs) (S := S) fun x hx S => by
    obtain ⟨ρ1, h1, h2⟩ := h x hx S
    exact ⟨ρ1, h1, rfl, (bin_of (lst_of (args1 rfl) (by simp)) h2).trans (mulM_zero hn)⟩
  rw [bind_of q]
  unfold lcF
  rw [if_pos (by unfold refs; simp; omega), hx]
  show R.ok (D.lst (refs S.length n)) _ = _
  congr 2
  unfold matC zeroM
  simp only [List.map_replicate]
/-- a TABLE as a value -/
def tbl (M : Mx) : D := .tup (M.map fun r => .tup (r.map D.int))
theorem tbl_bel (b : Nat) (M : Mx) : D.bel b (tbl M) = true := by
  show D.bels b _ = true
  induction M with
  | nil => rfl
  | cons r q ih =>
    show (D.bels b (r.map D.int) && D.bels b _) = true
    rw [bels_ints]; exact ih
/-- tuple([tuple(row) for row in rows]) -/
theorem freezeP {a : Ev} {vs : List Nat} {gv : Gv} {ev : Ev} {Φ : Ph} {ρ : Ro} {A : Store} {M : Mx} {n : Nat} (sq : Sq n M) (hn : n ≤ 1000) (h : a Φ ρ (A ++ matC M) = .ok (.lst (refs A.length n)) (A ++ matC M)) (hv : ∀ d, ∃ ρ1, gv d (wipeR ρ vs) = some ρ1 ∧ ∀ S, ev Φ ρ1 S = .ok d S) :
    eCall (op1 fTuple) (aCons (eLc false (fun Φ ρ => (a Φ ρ).bind srcOf) gv vYes (eCall (op1 fTuple) (aCons ev aNil)) vs) aNil) Φ ρ (A ++ matC M) = .ok (tbl M) (A ++ matC M) := by
  have e : (M.map fun r => D.tup (r.map D.int)) = (List.range n).map fun i => D.tup ((M.getD i []).map D.int) := by
    apply List.ext_getElem
    · simp [sq.1]
    · intro i h1 h2
      have h1' : i < M.length := by simpa using h1
      simp [List.getD_eq_getElem?_getD, List.getElem?_eq_getElem h1']
  refine (call1 (eLc_mapM (S1 := A ++ matC M) (l := List.range n) (fun i => D.ref (A.length + i)) (fun i => D.tup ((M.getD i []).map D.int)) ((src_of h).trans rfl) (by rw [List.length_range]; omega) fun i hi => ?_)).trans ?_
  · obtain ⟨ρ1, h1, h2⟩ := hv (.ref (A.length + i))
    exact ⟨ρ1, h1, rfl, (call1 (h2 _)).trans (fTuple_cell (cell_row (by rw [sq.1]; exact List.mem_range.mp hi)))⟩
  · show R.ok (D.tup _) _ = _
    unfold tbl
    rw [e]
end G
end

section
set_option Elab.async false
set_option linter.all false
set_option maxRecDepth 100000
namespace G
open PySem PySem.Spec PyProof.Rows L2
/-! ### draws at expressions -/
/-- a draw at an expression -/
theorem drawE {Φ : Ph} {ρ : Ro} {j : Nat} {a b : Ev} {S : Store} {w : Nat} {c : Cell} {m : Int} (hd : DrawOK (Φ j)) (h : S[w]? = some c) (hc : IsPool c) (h1 : a Φ ρ S = .ok (.ref w) S) (h2 : b Φ ρ S = .ok (.int m) S) (m0 : 0 < m) (m1 : m < 1073741824) :
    ∃ v c', eFn j (aCons a (aCons b aNil)) Φ ρ S = .ok (.int v) (S.set w c') ∧ IsPool c' ∧ 0 ≤ v ∧ v < m := by
  obtain ⟨v, c', q1, q2, q3⟩ := hd S w c m h hc m0 m1
  exact ⟨v, c', (fn2 h1 h2).trans q1, q2, q3⟩
/-- a draw asked for nought -/
theorem drawZ {Φ : Ph} {ρ : Ro} {j : Nat} {a b : Ev} {S : Store} {w : Nat} {c : Cell} {m : Int} (hd : DrawOK (Φ j)) (h : S[w]? = some c) (hc : IsPool c) (h1 : a Φ ρ S = .ok (.ref w) S) (h2 : b Φ ρ S = .ok (.int m) S) (m0 : 0 < m) (m1 : m < 1073741824) :
    ∃ b' c', tCmp oEq (eFn j (aCons a (aCons b aNil))) (eC (D.int 0)) Φ ρ S = .ok b' (S.set w c') ∧ IsPool c' := by
  obtain ⟨v, c', q1, q2, q3⟩ := drawE hd h hc h1 h2 m0 m1
  exact ⟨_, c', cmp_of q1 rfl rfl, q2⟩
/-! ### TABLEs in the making -/
structure TbI (n : Nat) (M : Mx) : Prop where
  sq : Sq n M
  lo : ∀ i j, i < n → j < n → 0 ≤ getM M i j
  hi : ∀ i j, i < n → j < n → getM M i j ≤ 999
  sy : ∀ i j, i < n → j < n → getM M i j = getM M j i
  dg : ∀ i, i < n → getM M i i = 0
theorem zero_tb (n : Nat) : TbI n (zeroM n) := ⟨zero_sq n, fun i j _ _ => by rw [zero_get]; decide, fun i j _ _ => by rw [zero_get]; decide, fun i j _ _ => by rw [zero_get, zero_get], fun i _ => zero_get⟩
/-- one distance otherwise, both ways -/
def putM (M : Mx) (i j : Nat) (v : Int) : Mx := setM (setM M i j v) j i v
theorem getM_put {n : Nat} {M : Mx} (h : Sq n M) {i j p q : Nat} {v : Int} (hi : i < n) (hj : j < n) : getM (putM M i j v) p q = if (p = i ∧ q = j) ∨ (p = j ∧ q = i) then v else getM M p q := by
  unfold putM
  rw [getM_set (h.set hi) hj hi, getM_set h hi hj]
  by_cases c1 : p = j ∧ q = i
  · rw [if_pos c1, if_pos (.inr c1)]
  · rw [if_neg c1]
    by_cases c2 : p = i ∧ q = j
    · rw [if_pos c2, if_pos (.inl c2)]
    · rw [if_neg c2, if_neg (fun z => z.elim c2 c1)]
theorem put_sq {n : Nat} {M : Mx} (h : Sq n M) {i j : Nat} {v : Int} (hi : i < n) (hj : j < n) : Sq n (putM M i j v) := (h.set hi).set hj
theorem put_tb {n : Nat} {M : Mx} (h : TbI n M) {i j : Nat} {v : Int} (hi : i < n) (hj : j < n) (ne : i ≠ j) (v0 : 0 ≤ v) (v1 : v ≤ 999) : TbI n (putM M i j v) := by
  refine ⟨put_sq h.sq hi hj, fun p q hp hq => ?_, fun p q hp hq => ?_, fun p q hp hq => ?_, fun p hp => ?_⟩
  · rw [getM_put h.sq hi hj]; split
    · exact v0
    · exact h.lo p q hp hq
  · rw [getM_put h.sq hi hj]; split
    · exact v1
    · exact h.hi p q hp hq
  · rw [getM_put h.sq hi hj, getM_put h.sq hi hj]
    by_cases c : (p = i ∧ q = j) ∨ (p = j ∧ q = i)
    · rw [if_pos c, if_pos (c.elim (fun z => .inr ⟨z.2, z.1⟩) (fun z => .inl ⟨z.2, z.1⟩))]
    · rw [if_neg c, if_neg (fun z => c (z.elim (fun z => .inr ⟨z.2, z.1⟩) (fun z => .inl ⟨z.2, z.1⟩)))]
      exact h.sy p q hp hq
  · rw [getM_put h.sq hi hj, if_neg (fun z => z.elim (fun z => ne (z.1 ▸ z.2 ▸ rfl)) (fun z => ne (z.1 ▸ z.2 ▸ rfl)))]
    exact h.dg p hp
/-- a drawn TABLE, any distances -/
def TableOK (f : List D → M D) (P : Nat → Mx → Prop) : Prop := ∀ (S : Store) (w : Nat) (c : Cell) (n : Nat), S[w]? = some c → IsPool c → 1 ≤ n → n ≤ 8 → ∃ M c', f [.ref w, .int (n : Nat)] S = .ok (tbl M) (S.set w c') ∧ IsPool c' ∧ TbI n M ∧ P n M
abbrev anyT (jd jp : Nat) (n1 n2 : Str) : Sm :=
    (sSeq
      (sPar [2, 3]
        (aCons
          (eFn jp
            (aCons (eVar 0)
              (aCons
                (eLst false
                  (aCons (eC (D.int 1)) (aCons (eC (D.int 2)) (aCons (eC (D.int 5)) (aCons (eC (D.int 999)) aNil)))))
                aNil)))
          (aCons
            (eLc false (vSrc sRng (aCons (eVar 1) aNil)) (gNm 6) vYes
              (eBin oMulM (eLst false (aCons (eC (D.int 0)) aNil)) (eVar 1))
              (List.map (fun x => x.snd) [(n1, 6)]))
            aNil)))
      (sSeq
        (sFor (vSrc sRng (aCons (eVar 1) aNil)) (gmN (gNm 4))
          (sFor (vSrc sRng (aCons (eVar 4) aNil)) (gmN (gNm 5))
            (sSeq
              (sAsg (eFn jd (aCons (eVar 0) (aCons (eBin oAdd (eVar 2) (eC (D.int 1))) aNil)))
                (gmSub (eBin oIx (eVar 3) (eVar 4)) (eVar 5)))
              (sAsg (eBin oIx (eBin oIx (eVar 3) (eVar 4)) (eVar 5)) (gmSub (eBin oIx (eVar 3) (eVar 5)) (eVar 4))))))
        (sRet
          (eCall (op1 fTuple)
            (aCons
              (eLc false (fun Φ ρ => (eVar 3 Φ ρ).bind srcOf) (gNm 7) vYes (eCall (op1 fTuple) (aCons (eVar 7) aNil))
                (List.map (fun x => x.snd) [(n2, 7)]))
              aNil)))))
theorem rngD_mem {n : Nat} {d : D} (h : d ∈ rngD 0 n) : ∃ i : Nat, d = .int (i : Nat) ∧ i < n := by
  rw [rngD_rgI] at h
  obtain ⟨i, hi, rfl⟩ := List.mem_map.mp h
  have := rgI_mem.mp hi
  exact ⟨i.toNat, by rw [Int.toNat_of_nonneg this.1], by omega⟩
theorem src_rng {Φ : Ph} {ρ : Ro} {S : Store} {a : Ev} {n : Nat} (h : a Φ ρ S = .ok (.int (n : Nat)) S) (hn : n ≤ 1000000) : vSrc sRng (aCons a aNil) Φ ρ S = .ok (fixS (rngD 0 n)) S := by
  refine (vsrc_of (args1 h)).trans ((sRng1_of (by omega)).trans ?_)
  rw [Int.toNat_natCast]
theorem rng_len (n : Nat) : (rngD 0 n).length = n := by rw [rngD_rgI, List.length_map, rgI_len]
theorem anyP {N : List Str} {frz : Bool} {Φ : Ph} {jd jp : Nat} {n1 n2 : Str} (hd : DrawOK (Φ jd)) (hp : PickOK (Φ jp)) (hN : ∀ x y, startR N [x, y] = [some x, some y, none, none, none, none, none, none]) :
    TableOK (fun ds => runF N (anyT jd jp n1 n2) frz Φ ds) fun _ _ => True := by
  intro S w c n h hc h1 h8
  obtain ⟨v, c1, hv, g1, hc1⟩ := hp S w c (.lst [.int 1, .int 2, .int 5, .int 999]) [.int 1, .int 2, .int 5, .int 999] h hc (fun _ => rfl) (by decide) (by decide) (by rfl)
  obtain ⟨hg, eh, hg0, hg9⟩ : ∃ hg : Int, ([.int 1, .int 2, .int 5, .int 999] : List D)[v] = .int hg ∧ 1 ≤ hg ∧ hg ≤ 999 := by
    have hv : v < 4 := hv
    match v, hv with
    | 0, _ => exact ⟨1, rfl, by decide, by decide⟩
    | 1, _ => exact ⟨2, rfl, by decide, by decide⟩
    | 2, _ => exact ⟨5, rfl, by decide, by decide⟩
    | 3, _ => exact ⟨999, rfl, by decide, by decide⟩
  rw [eh] at g1
  have hA : ∀ c, (S.set w c).length = S.length := fun c => len_set
  have p1 : sPar [2, 3]
        (aCons
          (eFn jp
            (aCons (eVar 0)
              (aCons
                (eLst false
                  (aCons (eC (D.int 1)) (aCons (eC (D.int 2)) (aCons (eC (D.int 5)) (aCons (eC (D.int 999)) aNil)))))
                aNil)))
          (aCons
            (eLc false (vSrc sRng (aCons (eVar 1) aNil)) (gNm 6) vYes
              (eBin oMulM (eLst false (aCons (eC (D.int 0)) aNil)) (eVar 1))
              (List.map (fun x => x.snd) [(n1, 6)]))
            aNil)) Φ [some (.ref w), some (.int (n : Nat)), none, none, none, none, none, none] S = .nx [some (.ref w), some (.int (n : Nat)), some (.int hg), some (.lst (refs S.length n)), none, none, none, none] (S.set w c1 ++ matC (zeroM n)) := by
    refine par_of (args2 ((fn2 rfl rfl).trans g1) (zeroP (n := n) (by omega) (rng_len n) (src_rng rfl (by omega)) fun x hx S => ⟨[some (.ref w), some (.int (n : Nat)), none, none, none, none, some x, none], rfl, rfl⟩)) ?_
    rw [hA]; rfl
  let Inv : Ro → Store → Prop := fun ρ S' => ∃ (c : Cell) (M : Mx) (x4 x5 x6 x7 : Option D), S' = S.set w c ++ matC M ∧ IsPool c ∧ TbI n M ∧ ρ = [some (.ref w), some (.int (n : Nat)), some (.int hg), some (.lst (refs S.length n)), x4, x5, x6, x7]
  obtain ⟨ρ', S', p2, c', M, x4, x5, x6, x7, rfl, hc', tb, rfl⟩ : ∃ ρ' S', sFor (vSrc sRng (aCons (eVar 1) aNil)) (gmN (gNm 4))
          (sFor (vSrc sRng (aCons (eVar 4) aNil)) (gmN (gNm 5))
            (sSeq
              (sAsg (eFn jd (aCons (eVar 0) (aCons (eBin oAdd (eVar 2) (eC (D.int 1))) aNil)))
                (gmSub (eBin oIx (eVar 3) (eVar 4)) (eVar 5)))
              (sAsg (eBin oIx (eBin oIx (eVar 3) (eVar 4)) (eVar 5)) (gmSub (eBin oIx (eVar 3) (eVar 5)) (eVar 4))))) Φ [some (.ref w), some (.int (n : Nat)), some (.int hg), some (.lst (refs S.length n)), none, none, none, none] (S.set w c1 ++ matC (zeroM n)) = .nx ρ' S' ∧ Inv ρ' S' := by
    rw [sFor_of (src_rng rfl (by omega))]
    refine forS_ex (fun r ρ S' => (∀ d ∈ r, ∃ i : Nat, d = .int (i : Nat) ∧ i < n) ∧ Inv ρ S') ?_ ⟨fun d hd => rngD_mem hd, c1, zeroM n, _, _, _, _, rfl, hc1, zero_tb n, rfl⟩ fun ρ' S' q => q.2
    rintro d r ρ S' ⟨hr, c, M, x4, x5, x6, x7, rfl, hc, tb, rfl⟩
    obtain ⟨i, rfl, hi⟩ := hr d List.mem_cons_self
    obtain ⟨ρ', S', q1, c', M', y5, q2, q3, q4, q5⟩ : ∃ ρ' S', sFor (vSrc sRng (aCons (eVar 4) aNil)) (gmN (gNm 5))
            (sSeq
              (sAsg (eFn jd (aCons (eVar 0) (aCons (eBin oAdd (eVar 2) (eC (D.int 1))) aNil)))
                (gmSub (eBin oIx (eVar 3) (eVar 4)) (eVar 5)))
              (sAsg (eBin oIx (eBin oIx (eVar 3) (eVar 4)) (eVar 5)) (gmSub (eBin oIx (eVar 3) (eVar 5)) (eVar 4)))) Φ [some (.ref w), some (.int (n : Nat)), some (.int hg), some (.lst (refs S.length n)), some (.int (i : Nat)), x5, x6, x7] (S.set w c ++ matC M) = .nx ρ' S' ∧ ∃ (c' : Cell) (M' : Mx) (y5 : Option D), S' = S.set w c' ++ matC M' ∧ IsPool c' ∧ TbI n M' ∧ ρ' = [some (.ref w), some (.int (n : Nat)), some (.int hg), some (.lst (refs S.length n)), some (.int (i : Nat)), y5, x6, x7] := by
      rw [sFor_of (src_rng rfl (by omega))]
      refine forS_ex (fun r ρ S' => (∀ d ∈ r, ∃ j : Nat, d = .int (j : Nat) ∧ j < i) ∧ ∃ (c' : Cell) (M' : Mx) (y5 : Option D), S' = S.set w c' ++ matC M' ∧ IsPool c' ∧ TbI n M' ∧ ρ = [some (.ref w), some (.int (n : Nat)), some (.int hg), some (.lst (refs S.length n)), some (.int (i : Nat)), y5, x6, x7]) ?_ ⟨fun d hd => rngD_mem hd, c, M, x5, rfl, hc, tb, rfl⟩ fun ρ' S' q => q.2
      rintro d r ρ S' ⟨hr, c, M, y5, rfl, hc, tb, rfl⟩
      obtain ⟨j, rfl, hj⟩ := hr d List.mem_cons_self
      obtain ⟨v, c', g, hc', v0, v1⟩ := drawE (Φ := Φ) (ρ := [some (.ref w), some (.int (n : Nat)), some (.int hg), some (.lst (refs S.length n)), some (.int (i : Nat)), some (.int (j : Nat)), x6, x7]) (a := eVar 0) (b := eBin oAdd (eVar 2) (eC (D.int 1))) (m := hg + 1) hd (get_app (get_set h)) hc rfl ((bin_of rfl rfl).trans rfl) (by omega) (by omega)
      rw [setA (get_set h), List.set_set] at g
      have wr := write2 (Φ := Φ) (ρ := [some (.ref w), some (.int (n : Nat)), some (.int hg), some (.lst (refs S.length n)), some (.int (i : Nat)), some (.int (j : Nat)), x6, x7]) (A := S.set w c') (M := M) (n := n) (i := i) (j := j) (a := eVar 3) (x := eVar 4) (y := eVar 5) tb.sq (v := v) (by rw [hA]; rfl) rfl rfl hi (by omega)
      have rd := read2 (Φ := Φ) (ρ := [some (.ref w), some (.int (n : Nat)), some (.int hg), some (.lst (refs S.length n)), some (.int (i : Nat)), some (.int (j : Nat)), x6, x7]) (A := S.set w c') (M := setM M i j v) (n := n) (i := i) (j := j) (a := eVar 3) (x := eVar 4) (y := eVar 5) (tb.sq.set hi) (by rw [hA]; rfl) rfl rfl hi (by omega)
      rw [getM_set tb.sq hi (by omega), if_pos ⟨rfl, rfl⟩] at rd
      have wr2 := write2 (Φ := Φ) (ρ := [some (.ref w), some (.int (n : Nat)), some (.int hg), some (.lst (refs S.length n)), some (.int (i : Nat)), some (.int (j : Nat)), x6, x7]) (A := S.set w c') (M := setM M i j v) (n := n) (i := j) (j := i) (a := eVar 3) (x := eVar 5) (y := eVar 4) (tb.sq.set hi) (v := v) (by rw [hA]; rfl) rfl rfl (by omega) hi
      exact ⟨[some (.ref w), some (.int (n : Nat)), some (.int hg), some (.lst (refs S.length n)), some (.int (i : Nat)), some (.int (j : Nat)), x6, x7], _, _, _, rfl, .inl ((seq_of (asgG_of g wr)).trans (asgG_of rd wr2)), fun z hz => hr z (List.mem_cons_of_mem _ hz), c', putM M i j v, _, rfl, hc', put_tb tb hi (by omega) (by omega) v0 (by omega), rfl⟩
    exact ⟨_, _, ρ', S', rfl, .inl q1, fun z hz => hr z (List.mem_cons_of_mem _ hz), c', M', _, _, _, _, q2, q3, q4, q5⟩
  refine ⟨M, c', (run_st (d := tbl M) (S1 := S.set w c' ++ matC M) ?_ (tbl_bel _ _)).trans ?_, hc', tb, trivial⟩
  · rw [hN]
    refine (seq_of p1).trans ((seq_of p2).trans (ret_of ?_))
    refine freezeP tb.sq (by omega) (by rw [hA]; rfl) fun d => ⟨[some (.ref w), some (.int (n : Nat)), some (.int hg), some (.lst (refs S.length n)), x4, x5, x6, some d], rfl, fun _ => rfl⟩
  · rw [← hA c', take_app]
end G
end

section
set_option Elab.async false
set_option linter.all false
set_option maxRecDepth 100000
namespace G
open PySem PySem.Spec PyProof.Rows L2
/-! ### a reckoning step by step -/
theorem c_of {Φ : Ph} {ρ : Ro} {S : Store} {d : D} : eC d Φ ρ S = .ok d S := rfl
theorem cond_t {α : Type} {x y r : α} (h : x = r) : cond true x y = r := h
theorem cond_f {α : Type} {x y r : α} (h : y = r) : cond false x y = r := h
theorem eif_b {Φ : Ph} {ρ : Ro} {S S1 : Store} {a b : Ev} {t : Tv} {p : Bool} {r : R D} (h : t Φ ρ S = .ok p S1) (h2 : cond p (a Φ ρ S1) (b Φ ρ S1) = r) : eIf t a b Φ ρ S = r := by
  cases p with
  | true => exact (eif_t h).trans h2
  | false => exact (eif_f h).trans h2
theorem sif_b {Φ : Ph} {ρ : Ro} {S S1 : Store} {t : Tv} {u v : Sm} {p : Bool} {r : Rs} (h : t Φ ρ S = .ok p S1) (h2 : cond p (u Φ ρ S1) (v Φ ρ S1) = r) : sIf t u v Φ ρ S = r := by
  cases p with
  | true => exact (sif_t h).trans h2
  | false => exact (sif_f h).trans h2
theorem and_b {Φ : Ph} {ρ : Ro} {S S1 : Store} {a b : Ev} {p : Bool} {r : R D} (h : a Φ ρ S = .ok (.bl p) S1) (h2 : cond p (b Φ ρ S1) (.ok (.bl false) S1) = r) : eAnd a b Φ ρ S = r := by
  cases p with
  | true => exact (and_t h).trans h2
  | false => exact (and_f h).trans h2
theorem or_b {Φ : Ph} {ρ : Ro} {S S1 : Store} {a b : Ev} {p : Bool} {r : R D} (h : a Φ ρ S = .ok (.bl p) S1) (h2 : cond p (.ok (.bl true) S1) (b Φ ρ S1) = r) : eOr a b Φ ρ S = r := by
  cases p with
  | true => exact (or_t h).trans h2
  | false => exact (or_f h).trans h2
theorem vand_b {Φ : Ph} {ρ : Ro} {S S1 : Store} {a b : Tv} {p : Bool} {r : R Bool} (h : a Φ ρ S = .ok p S1) (h2 : cond p (b Φ ρ S1) (.ok false S1) = r) : vAnd a b Φ ρ S = r := by
  unfold vAnd; rw [bind_of h]; cases p <;> exact h2
theorem vor_b {Φ : Ph} {ρ : Ro} {S S1 : Store} {a b : Tv} {p : Bool} {r : R Bool} (h : a Φ ρ S = .ok p S1) (h2 : cond p (.ok true S1) (b Φ ρ S1) = r) : vOr a b Φ ρ S = r := by
  unfold vOr; rw [bind_of h]; cases p <;> exact h2
theorem vyes_of {Φ : Ph} {ρ : Ro} {S : Store} : vYes Φ ρ S = .ok true S := rfl
theorem nx_of {Φ : Ph} {ρ : Ro} {S : Store} : sNx Φ ρ S = .nx ρ S := rfl
theorem bk_of {Φ : Ph} {ρ : Ro} {S : Store} : sBk Φ ρ S = .bk ρ S := rfl
theorem ct_of {Φ : Ph} {ρ : Ro} {S : Store} : sCt Φ ρ S = .ct ρ S := rfl
theorem retN_of {Φ : Ph} {ρ : Ro} {S : Store} : sRetN Φ ρ S = .rt .non S := rfl
theorem no_of {Φ : Ph} {ρ : Ro} {S : Store} : vNo Φ ρ S = .ok none S := rfl
theorem seq_b {a b : Sm} {Φ : Ph} {ρ ρ1 : Ro} {S S1 : Store} {r : Rs} (h : a Φ ρ S = .nx ρ1 S1) (h2 : b Φ ρ1 S1 = r) : sSeq a b Φ ρ S = r := (seq_of h).trans h2
theorem asg_b {e : Ev} {i : Nat} {Φ : Ph} {ρ ρ' : Ro} {S S1 : Store} {d : D} {r : Rs} (h : e Φ ρ S = .ok d S1) (q : ρ.set i (some d) = ρ') (h2 : Rs.nx ρ' S1 = r) : sAsg e (gmN (gNm i)) Φ ρ S = r := (asg_of h).trans (by rw [q]; exact h2)
theorem par_b {q : Ph → Ro → M (List D)} {is : List Nat} {Φ : Ph} {ρ ρ1 : Ro} {S S1 : Store} {ds : List D} {r : Rs} (h : q Φ ρ S = .ok ds S1) (h2 : setAll is ds ρ = some ρ1) (h3 : Rs.nx ρ1 S1 = r) : sPar is q Φ ρ S = r := (par_of h h2).trans h3
theorem setl_h {ρ ρ' : Ro} {i : Nat} {v : Option D} (h : ρ.set i v = ρ') : ρ.set i v = ρ' := h
theorem setall_h {is : List Nat} {ds : List D} {ρ : Ro} {o : Option Ro} (h : setAll is ds ρ = o) : setAll is ds ρ = o := h
theorem gmn_b {i : Nat} {Φ : Ph} {d : D} {ρ ρ' : Ro} {S : Store} (q : ρ.set i (some d) = ρ') : gmN (gNm i) Φ d ρ S = .ok ρ' S := by rw [← q]; rfl
theorem gmtup_b {g : Gms} {Φ : Ph} {ds : List D} {ρ : Ro} {S : Store} {r : R Ro} (h : g Φ ds ρ S = r) : gmTup g Φ (.tup ds) ρ S = r := h
theorem gscons_b {g : Gm} {q : Gms} {Φ : Ph} {d : D} {ds : List D} {ρ ρ1 : Ro} {S S1 : Store} {r : R Ro} (h : g Φ d ρ S = .ok ρ1 S1) (h2 : q Φ ds ρ1 S1 = r) : gsCons g q Φ (d :: ds) ρ S = r := (bind_of h).trans h2
theorem gsnil_b {Φ : Ph} {ρ : Ro} {S : Store} : gsNil Φ [] ρ S = .ok ρ S := rfl
theorem asgG_b {e : Ev} {g : Gm} {Φ : Ph} {ρ ρ1 : Ro} {S S1 S2 : Store} {d : D} {r : Rs} (h : e Φ ρ S = .ok d S1) (h2 : g Φ d ρ S1 = .ok ρ1 S2) (h3 : Rs.nx ρ1 S2 = r) : sAsg e g Φ ρ S = r := (asgG_of h h2).trans h3
theorem ret_b {e : Ev} {Φ : Ph} {ρ : Ro} {S S1 : Store} {d : D} {r : Rs} (h : e Φ ρ S = .ok d S1) (h2 : Rs.rt d S1 = r) : sRet e Φ ρ S = r := (ret_of h).trans h2
theorem bin_b {Φ : Ph} {ρ : Ro} {S S1 S2 : Store} {a b : Ev} {x y : D} {op : D → D → M D} {r : R D} (h : a Φ ρ S = .ok x S1) (h2 : b Φ ρ S1 = .ok y S2) (h3 : op x y S2 = r) : eBin op a b Φ ρ S = r := (bin_of h h2).trans h3
theorem un_b {Φ : Ph} {ρ : Ro} {S S1 : Store} {a : Ev} {x : D} {op : D → M D} {r : R D} (h : a Φ ρ S = .ok x S1) (h3 : op x S1 = r) : eUn op a Φ ρ S = r := (un_of h).trans h3
theorem call_b {op : List D → M D} {q : Ph → Ro → M (List D)} {Φ : Ph} {ρ : Ro} {S S1 : Store} {ds : List D} {r : R D} (h : q Φ ρ S = .ok ds S1) (h2 : op ds S1 = r) : eCall op q Φ ρ S = r := (call_of h).trans h2
theorem fn_b {i : Nat} {q : Ph → Ro → M (List D)} {Φ : Ph} {ρ : Ro} {S S1 : Store} {ds : List D} {r : R D} (h : q Φ ρ S = .ok ds S1) (h2 : Φ i ds S1 = r) : eFn i q Φ ρ S = r := (fn_of' h).trans h2
theorem tv_b {a : Ev} {Φ : Ph} {ρ : Ro} {S S1 : Store} {d : D} {r : R Bool} (h : a Φ ρ S = .ok d S1) (h2 : truM d S1 = r) : tvOf a Φ ρ S = r := by unfold tvOf; rw [bind_of h]; exact h2
theorem tcmp_b {Φ : Ph} {ρ : Ro} {S S1 S2 S3 : Store} {a b : Ev} {x y : D} {op : D → D → M D} {p : Bool} {r : R Bool} (h : a Φ ρ S = .ok x S1) (h2 : b Φ ρ S1 = .ok y S2) (h3 : op x y S2 = .ok (.bl p) S3) (h4 : R.ok p S3 = r) : tCmp op a b Φ ρ S = r := (cmp_of h h2 h3).trans h4
theorem vnot_b {t : Tv} {Φ : Ph} {ρ : Ro} {S S1 : Store} {p : Bool} {r : R Bool} (h : t Φ ρ S = .ok p S1) (h2 : R.ok (!p) S1 = r) : vNot t Φ ρ S = r := (vnot_of h).trans h2
theorem not_b {a : Ev} {Φ : Ph} {ρ : Ro} {S S1 : Store} {d : D} {p : Bool} {r : R D} (h : a Φ ρ S = .ok d S1) (h1 : truM d S1 = .ok p S1) (h2 : R.ok (D.bl (!p)) S1 = r) : eNot a Φ ρ S = r := by
  unfold eNot; rw [bind_of h, bind_of h1]; exact h2
theorem tup_b {q : Ph → Ro → M (List D)} {n : Nat} {Φ : Ph} {ρ : Ro} {S S1 : Store} {ds : List D} {r : R D} (h : q Φ ρ S = .ok ds S1) (hz : ds.length ≤ 16777216) (h2 : R.ok (D.tup ds) S1 = r) : eTup q n Φ ρ S = r := (tup_of h hz).trans h2
theorem lst_b {q : Ph → Ro → M (List D)} {Φ : Ph} {ρ : Ro} {S S1 : Store} {ds : List D} {r : R D} (h : q Φ ρ S = .ok ds S1) (hz : ds.length ≤ 16777216) (h2 : R.ok (D.lst ds) S1 = r) : eLst false q Φ ρ S = r := (lst_of h hz).trans h2
theorem sl_b {m : Bool} {a : Ev} {l u : Ov} {Φ : Ph} {ρ : Ro} {S S1 S2 S3 : Store} {x : D} {lo hi : Option Int} {r : R D} (h : a Φ ρ S = .ok x S1) (h2 : l Φ ρ S1 = .ok lo S2) (h3 : u Φ ρ S2 = .ok hi S3) (h4 : oSl m x lo hi S3 = r) : eSl m a l u Φ ρ S = r := (sl_of h h2 h3).trans h4
theorem so_b {a : Ev} {Φ : Ph} {ρ : Ro} {S S1 : Store} {i : Int} {r : R (Option Int)} (h : a Φ ρ S = .ok (.int i) S1) (h2 : R.ok (some i) S1 = r) : vSo a Φ ρ S = r := (so_of h).trans h2
theorem chain_b {op op' : D → D → M D} {a b c : Ev} {Φ : Ph} {ρ : Ro} {S S1 S2 S3 : Store} {x y : D} {p : Bool} {r : R D} (h : a Φ ρ S = .ok x S1) (h2 : b Φ ρ S1 = .ok y S2) (h3 : op x y S2 = .ok (.bl p) S3) (h4 : cond p ((c Φ ρ).bind (op' y) S3) (.ok (.bl false) S3) = r) : eChain op op' a b c Φ ρ S = r := by
  unfold eChain
  rw [bind_of h, bind_of h2, bind_of h3, bind_of (show blM (.bl p) S3 = .ok p S3 from rfl)]
  cases p with
  | true => exact h4
  | false => exact h4
theorem bind_b {α β : Type} {m : M α} {f : α → M β} {S S1 : Store} {a : α} {r : R β} (h : m S = .ok a S1) (h2 : f a S1 = r) : M.bind m f S = r := (bind_of h).trans h2
theorem vchain_b {op op' : D → D → M D} {a b c : Ev} {Φ : Ph} {ρ : Ro} {S S1 : Store} {p : Bool} {r : R Bool} (h : eChain op op' a b c Φ ρ S = .ok (.bl p) S1) (h2 : R.ok p S1 = r) : vChain op op' a b c Φ ρ S = r := by
  unfold vChain; rw [bind_of h]; exact h2
/-! operations on numbers -/
section
variable {i j : Int} {S : Store} {r : R D}
theorem add_b (h : R.ok (.int (i + j)) S = r) : oAdd (.int i) (.int j) S = r := h
theorem sub_b (h : R.ok (.int (i - j)) S = r) : oSub (.int i) (.int j) S = r := h
theorem lt_b (h : R.ok (.bl (decide (i < j))) S = r) : oLt (.int i) (.int j) S = r := h
theorem le_b (h : R.ok (.bl (decide (i ≤ j))) S = r) : oLe (.int i) (.int j) S = r := h
theorem gt_b (h : R.ok (.bl (decide (j < i))) S = r) : oGt (.int i) (.int j) S = r := h
theorem ge_b (h : R.ok (.bl (decide (j ≤ i))) S = r) : oGe (.int i) (.int j) S = r := h
theorem eqi_b (h : R.ok (.bl (i == j)) S = r) : oEq (.int i) (.int j) S = r := h
theorem nei_b (h : R.ok (.bl (!(i == j))) S = r) : oNe (.int i) (.int j) S = r := h
theorem eqb_b {p q : Bool} (h : R.ok (.bl (p == q)) S = r) : oEq (.bl p) (.bl q) S = r := h
theorem neb_b {p q : Bool} (h : R.ok (.bl (!(p == q))) S = r) : oNe (.bl p) (.bl q) S = r := h
theorem op1_b {f : D → M D} {x : D} (h : f x S = r) : op1 f [x] S = r := h
theorem op2_b {f : D → D → M D} {x y : D} (h : f x y S = r) : op2 f [x, y] S = r := h
theorem trub_b {p : Bool} {r : R Bool} (h : R.ok p S = r) : truM (.bl p) S = r := h
theorem lent_b {xs : List D} (h : R.ok (.int (xs.length : Nat)) S = r) : fLen (.tup xs) S = r := h
theorem lenl_b {xs : List D} (h : R.ok (.int (xs.length : Nat)) S = r) : fLen (.lst xs) S = r := h
theorem lenr_b {xs : List D} (h : R.ok (.int (xs.length : Nat)) S = r) : fLen (.rol xs) S = r := h
theorem tupl_b {xs : List D} (h : R.ok (.tup xs) S = r) : fTuple (.lst xs) S = r := h
end
/-! ### loops -/
theorem forS_some {α : Type} {gm : D → Ro → M Ro} {body : Ro → Store → Rs} {S : Store} (P : Ro → Prop) (e : α → D) (g : α → Option D) : ∀ {l : List α} {ρ : Ro}, P ρ →
    (∀ x ∈ l, ∀ ρ, P ρ → ∃ ρ1 ρ2, gm (e x) ρ S = .ok ρ1 S ∧ P ρ2 ∧ body ρ1 S = match g x with | none => .nx ρ2 S | some d => .rt d S) →
    ∃ ρ', P ρ' ∧ forS (M.ok ()) gm body ((l.map e).map M.ok) ρ S = match l.findSome? g with | none => .nx ρ' S | some d => .rt d S
  | [], ρ, p, _ => ⟨ρ, p, rfl⟩
  | x :: r, ρ, p, h => by
    obtain ⟨ρ1, ρ2, h1, h2, h3⟩ := h x List.mem_cons_self ρ p
    rw [List.map_cons, List.map_cons]
    unfold forS
    rw [to_of (show (M.ok (e x) : M D) S = .ok (e x) S from rfl), to_of h1, h3, List.findSome?_cons]
    cases hg : g x with
    | some d => exact ⟨ρ2, h2, rfl⟩
    | none => exact forS_some P e g h2 fun y hy => h y (List.mem_cons_of_mem _ hy)
theorem some_range {α : Type} {f : Nat → Option α} {n : Nat} : (∀ i, i < n → f i = none) ∧ (List.range n).findSome? f = none ∨ ∃ i d, i < n ∧ f i = some d ∧ (∀ j, j < i → f j = none) ∧ (List.range n).findSome? f = some d := by
  induction n with
  | zero => exact .inl ⟨fun i h => absurd h (Nat.not_lt_zero _), rfl⟩
  | succ n ih =>
    rw [List.range_succ, List.findSome?_append]
    rcases ih with ⟨h1, h2⟩ | ⟨i, d, h1, h2, h3, h4⟩
    · rw [h2]
      cases hn : f n with
      | none =>
        refine .inl ⟨fun i hi => ?_, by simp [hn]⟩
        rcases Nat.lt_succ_iff_lt_or_eq.mp hi with hi | rfl
        · exact h1 i hi
        · exact hn
      | some d => exact .inr ⟨n, d, Nat.lt_succ_self _, hn, h1, by simp [hn]⟩
    · rw [h4]
      exact .inr ⟨i, d, Nat.lt_succ_of_lt h1, h2, h3, rfl⟩
/-- a loop over a range -/
theorem forS_rng {gm : D → Ro → M Ro} {body : Ro → Store → Rs} {lo : Int} {n : Nat} {ρ : Ro} {S : Store} (Inv : Nat → Ro → Store → Prop) (h0 : Inv 0 ρ S)
    (h : ∀ i ρ S, i < n → Inv i ρ S → ∃ ρ1 S1 ρ2 S2, gm (.int (lo + (i : Nat))) ρ S = .ok ρ1 S1 ∧ (body ρ1 S1 = .nx ρ2 S2 ∨ body ρ1 S1 = .ct ρ2 S2) ∧ Inv (i + 1) ρ2 S2) :
    ∃ ρ' S', forS (M.ok ()) gm body ((rngD lo n).map M.ok) ρ S = .nx ρ' S' ∧ Inv n ρ' S' := by
  have key : ∀ (m k : Nat) (ρ : Ro) (S : Store), m + k = n → Inv k ρ S → ∃ ρ' S', forS (M.ok ()) gm body (((List.range' k m).map fun i => D.int (lo + (i : Nat))).map M.ok) ρ S = .nx ρ' S' ∧ Inv n ρ' S' := by
    intro m
    induction m with
    | zero => intro k ρ S e i; have : k = n := by omega
              subst this; exact ⟨ρ, S, rfl, i⟩
    | succ m ih =>
      intro k ρ S e i
      obtain ⟨ρ1, S1, ρ2, S2, h1, h2, h3⟩ := h k ρ S (by omega) i
      obtain ⟨ρ', S', k1, k2⟩ := ih (k + 1) ρ2 S2 (by omega) h3
      refine ⟨ρ', S', ?_, k2⟩
      rw [List.range'_succ, List.map_cons, List.map_cons]
      unfold forS
      rw [to_of (show (M.ok (D.int (lo + (k : Nat))) : M D) S = .ok (D.int (lo + (k : Nat))) S from rfl), to_of h1]
      rcases h2 with h2 | h2 <;> (rw [h2]; exact k1)
  have := key n 0 ρ S (by omega) h0
  rw [← List.range_eq_range'] at this
  exact this
theorem sFor_rng {sv : Sv} {gm : Gm} {b : Sm} {Φ : Ph} {lo : Int} {n : Nat} {ρ : Ro} {S S0 : Store} (hs : sv Φ ρ S = .ok (fixS (rngD lo n)) S0) (Inv : Nat → Ro → Store → Prop) (h0 : Inv 0 ρ S0)
    (h : ∀ i ρ S, i < n → Inv i ρ S → ∃ ρ1 S1 ρ2 S2, gm Φ (.int (lo + (i : Nat))) ρ S = .ok ρ1 S1 ∧ (b Φ ρ1 S1 = .nx ρ2 S2 ∨ b Φ ρ1 S1 = .ct ρ2 S2) ∧ Inv (i + 1) ρ2 S2) :
    ∃ ρ' S', sFor sv gm b Φ ρ S = .nx ρ' S' ∧ Inv n ρ' S' := by
  rw [sFor_of hs]
  exact forS_rng Inv h0 h
theorem src_rng2 {Φ : Ph} {ρ : Ro} {S : Store} {a b : Ev} {m n : Nat} (h : a Φ ρ S = .ok (.int (m : Nat)) S) (h2 : b Φ ρ S = .ok (.int (n : Nat)) S) (hm : m ≤ 1000000) (hn : n ≤ 1000000) : vSrc sRng (aCons a (aCons b aNil)) Φ ρ S = .ok (fixS (rngD (m : Nat) (n - m))) S := by
  refine (vsrc_of (args2 h h2)).trans ((sRng2_of (by omega)).trans ?_)
  have e : (((n : Nat) : Int) - ((m : Nat) : Int)).toNat = n - m := by omega
  rw [e]
theorem rngD_map (n : Nat) : rngD 0 n = (List.range n).map fun i => D.int (i : Nat) := by
  rw [rngD_rgI]; unfold rgI; rw [List.map_map]; rfl
end G
end

section
set_option Elab.async false
set_option linter.all false
set_option maxRecDepth 100000
namespace G
open PySem PySem.Spec PyProof.Rows L2
/-! ### TABLEs of trees -/
/-- of the three sums none is above both others -/
def FP (p : Nat) (d : Nat → Nat → Int) : Prop := ∀ a b c e, a < p → b < p → c < p → e < p → d a b + d c e ≤ d a c + d b e ∨ d a b + d c e ≤ d a e + d b c
structure Tree (p : Nat) (B : Int) (d : Nat → Nat → Int) : Prop where
  lo : ∀ i j, i < p → j < p → 0 ≤ d i j
  hi : ∀ i j, i < p → j < p → d i j ≤ B
  sy : ∀ i j, i < p → j < p → d i j = d j i
  dg : ∀ i, i < p → d i i = 0
  fp : FP p d
theorem Tree.tri {p : Nat} {B : Int} {d : Nat → Nat → Int} (h : Tree p B d) {r c e : Nat} (hr : r < p) (hc : c < p) (he : e < p) : d c e ≤ d r c + d r e := by
  have := h.fp r r c e hr hr hc he
  have := h.dg r hr
  omega
/-- a leaf more -/
theorem Tree.leaf {p : Nat} {B g C : Int} {d d' : Nat → Nat → Int} {r : Nat} (h : Tree p B d) (hr : r < p) (g0 : 0 ≤ g) (gB : g ≤ C) (k : ∀ i j, i < p → j < p → d' i j = d i j) (k1 : ∀ j, j < p → d' p j = d r j + g ∧ d' j p = d r j + g) (k2 : d' p p = 0) (B0 : 0 ≤ B) : Tree (p + 1) (B + C) d' := by
  have two : ∀ i, i < p + 1 → i < p ∨ i = p := fun i hi => by omega
  refine ⟨fun i j hi hj => ?_, fun i j hi hj => ?_, fun i j hi hj => ?_, fun i hi => ?_, ?_⟩
  · rcases two i hi with hi | rfl <;> rcases two j hj with hj | rfl
    · rw [k i j hi hj]; exact h.lo i j hi hj
    · rw [(k1 i hi).2]; have := h.lo r i hr hi; omega
    · rw [(k1 j hj).1]; have := h.lo r j hr hj; omega
    · rw [k2]; exact Int.le_refl _
  · rcases two i hi with hi | rfl <;> rcases two j hj with hj | rfl
    · rw [k i j hi hj]; have := h.hi i j hi hj; omega
    · rw [(k1 i hi).2]; have := h.hi r i hr hi; omega
    · rw [(k1 j hj).1]; have := h.hi r j hr hj; omega
    · rw [k2]; omega
  · rcases two i hi with hi | rfl <;> rcases two j hj with hj | rfl
    · rw [k i j hi hj, k j i hj hi]; exact h.sy i j hi hj
    · rw [(k1 i hi).2, (k1 i hi).1]
    · rw [(k1 j hj).2, (k1 j hj).1]
    · rfl
  · rcases two i hi with hi | rfl
    · rw [k i i hi hi]; exact h.dg i hi
    · exact k2
  · intro a b c e ha hb hc he
    rcases two a ha with ha | rfl <;> rcases two b hb with hb | rfl <;> rcases two c hc with hc | rfl <;> rcases two e he with he | rfl
    · rw [k a b ha hb, k c e hc he, k a c ha hc, k b e hb he, k a e ha he, k b c hb hc]; exact h.fp a b c e ha hb hc he
    · rw [k a b ha hb, (k1 c hc).2, k a c ha hc, (k1 b hb).2, (k1 a ha).2, k b c hb hc]
      have := h.fp a b c r ha hb hc hr
      have := h.sy r c hr hc; have := h.sy r b hr hb; have := h.sy r a hr ha
      omega
    · rw [k a b ha hb, (k1 e he).1, (k1 a ha).2, k b e hb he, k a e ha he, (k1 b hb).2]
      have := h.fp a b r e ha hb hr he
      have := h.sy r b hr hb; have := h.sy r a hr ha
      omega
    · rw [k a b ha hb, k2, (k1 a ha).2, (k1 b hb).2]
      have := h.tri hr ha hb
      omega
    · rw [(k1 a ha).2, k c e hc he, k a c ha hc, (k1 e he).1, k a e ha he, (k1 c hc).1]
      have := h.fp a r c e ha hr hc he
      have := h.sy r a hr ha
      omega
    · rw [(k1 a ha).2, (k1 c hc).2, k a c ha hc, k2, (k1 c hc).1]
      omega
    · rw [(k1 a ha).2, (k1 e he).1, k2, k a e ha he]
      omega
    · rw [(k1 a ha).2, k2]
      omega
    · rw [(k1 b hb).1, k c e hc he, (k1 c hc).1, k b e hb he, (k1 e he).1, k b c hb hc]
      have := h.fp r b c e hr hb hc he
      omega
    · rw [(k1 b hb).1, (k1 c hc).2, (k1 c hc).1, (k1 b hb).2, k2, k b c hb hc]
      omega
    · rw [(k1 b hb).1, (k1 e he).1, k2, k b e hb he, (k1 b hb).2]
      have := h.sy b e hb he
      omega
    · rw [(k1 b hb).1, (k1 b hb).2, k2]
      omega
    · rw [k2, k c e hc he, (k1 c hc).1, (k1 e he).1]
      have := h.tri hr hc he
      omega
    · rw [k2, (k1 c hc).2, (k1 c hc).1]
      omega
    · rw [k2, (k1 e he).1]
      omega
    · rw [k2]; omega
theorem mixed_nats {n : Nat} {os : List Int} (h : os.Perm (rgI n)) : ∃ is : List Nat, os = is.map (fun i => ((i : Nat) : Int)) ∧ is.Perm (List.range n) := by
  refine ⟨os.map Int.toNat, ?_, ?_⟩
  · rw [List.map_map]
    conv => lhs; rw [← List.map_id os]
    refine List.map_congr_left fun x hx => ?_
    have := rgI_mem.mp (h.mem_iff.mp hx)
    simp only [id, Function.comp]; omega
  · have := h.map Int.toNat
    refine this.trans ?_
    unfold rgI
    rw [List.map_map]
    have e : (List.range n).map (Int.toNat ∘ fun k : Nat => (k : Int)) = List.range n := by
      conv => rhs; rw [← List.map_id (List.range n)]
      exact List.map_congr_left fun x _ => by simp [Function.comp]
    rw [e]
def partM (M : Mx) (is : List Nat) : Mx := is.map fun i => is.map fun j => getM M i j
theorem getD_at {α : Type} {l : List α} {i : Nat} {d : α} (h : i < l.length) : l.getD i d = l[i] := by
  rw [List.getD_eq_getElem?_getD, List.getElem?_eq_getElem h]; rfl
theorem getM_part {M : Mx} {is : List Nat} {a b : Nat} (ha : a < is.length) (hb : b < is.length) : getM (partM M is) a b = getM M (is.getD a 0) (is.getD b 0) := by
  rw [getD_at ha, getD_at hb]
  have e : (partM M is).getD a [] = is.map fun j => getM M is[a] j := by
    unfold partM
    rw [getD_at (by rw [List.length_map]; exact ha), List.getElem_map]
  show ((partM M is).getD a []).getD b 0 = _
  rw [e, getD_at (by rw [List.length_map]; exact hb), List.getElem_map]
theorem part_sq (M : Mx) (is : List Nat) : Sq is.length (partM M is) := ⟨by unfold partM; simp, fun r hr => by
  unfold partM at hr
  obtain ⟨i, _, rfl⟩ := List.mem_map.mp hr
  simp⟩
theorem tbl_part (M : Mx) (is : List Nat) : tbl (partM M is) = .tup (is.map fun i => D.tup (is.map fun j => D.int (getM M i j))) := by
  unfold tbl partM
  rw [List.map_map]
  congr 1
  refine List.map_congr_left fun i _ => ?_
  show D.tup _ = D.tup _
  rw [List.map_map]; rfl
theorem getD_mem {α : Type} {l : List α} {i : Nat} {d : α} (h : i < l.length) : l.getD i d ∈ l := by
  rw [List.getD_eq_getElem?_getD, List.getElem?_eq_getElem h]; exact List.getElem_mem h
theorem part_tb {s : Nat} {M : Mx} {B : Int} (h : Tree s B (getM M)) (hB : B ≤ 999) {is : List Nat} (hi : ∀ i ∈ is, i < s) : TbI is.length (partM M is) ∧ FP is.length (getM (partM M is)) := by
  have g : ∀ {a}, a < is.length → is.getD a 0 < s := fun ha => hi _ (getD_mem ha)
  refine ⟨⟨part_sq M is, fun i j h1 h2 => ?_, fun i j h1 h2 => ?_, fun i j h1 h2 => ?_, fun i h1 => ?_⟩, fun a b c e ha hb hc he => ?_⟩
  · rw [getM_part h1 h2]; exact h.lo _ _ (g h1) (g h2)
  · rw [getM_part h1 h2]; exact Int.le_trans (h.hi _ _ (g h1) (g h2)) hB
  · rw [getM_part h1 h2, getM_part h2 h1]; exact h.sy _ _ (g h1) (g h2)
  · rw [getM_part h1 h1]; exact h.dg _ (g h1)
  · rw [getM_part ha hb, getM_part hc he, getM_part ha hc, getM_part hb he, getM_part ha he, getM_part hb hc]
    exact h.fp _ _ _ _ (g ha) (g hb) (g hc) (g he)
theorem fp_part {s : Nat} {M : Mx} (h : FP s (getM M)) {is : List Nat} (hi : ∀ i ∈ is, i < s) : FP is.length (getM (partM M is)) := by
  have g : ∀ {a}, a < is.length → is.getD a 0 < s := fun ha => hi _ (getD_mem ha)
  intro a b c e ha hb hc he
  rw [getM_part ha hb, getM_part hc he, getM_part ha hc, getM_part hb he, getM_part ha he, getM_part hb hc]
  exact h _ _ _ _ (g ha) (g hb) (g hc) (g he)
theorem tb_part {s : Nat} {M : Mx} (h : TbI s M) {is : List Nat} (hi : ∀ i ∈ is, i < s) : TbI is.length (partM M is) := by
  have g : ∀ {a}, a < is.length → is.getD a 0 < s := fun ha => hi _ (getD_mem ha)
  refine ⟨part_sq M is, fun i j h1 h2 => ?_, fun i j h1 h2 => ?_, fun i j h1 h2 => ?_, fun i h1 => ?_⟩
  · rw [getM_part h1 h2]; exact h.lo _ _ (g h1) (g h2)
  · rw [getM_part h1 h2]; exact h.hi _ _ (g h1) (g h2)
  · rw [getM_part h1 h2, getM_part h2 h1]; exact h.sy _ _ (g h1) (g h2)
  · rw [getM_part h1 h1]; exact h.dg _ (g h1)
theorem zero_tree (s : Nat) : Tree 1 40 (getM (zeroM s)) := ⟨fun i j _ _ => by rw [zero_get]; decide, fun i j _ _ => by rw [zero_get]; decide, fun i j _ _ => by rw [zero_get, zero_get], fun i _ => zero_get, fun a b c e _ _ _ _ => by left; simp only [zero_get]; decide⟩
/-- a pick of numbers given one by one -/
theorem pickE {Φ : Ph} {ρ : Ro} {j : Nat} {a b : Ev} {S : Store} {w : Nat} {c : Cell} {ns : List Int} (hp : PickOK (Φ j)) (h : S[w]? = some c) (hc : IsPool c) (h1 : a Φ ρ S = .ok (.ref w) S) (h2 : b Φ ρ S = .ok (.lst (ns.map D.int)) S) (l1 : 1 ≤ ns.length) (l2 : ns.length ≤ 1000000) :
    ∃ v c', eFn j (aCons a (aCons b aNil)) Φ ρ S = .ok (.int v) (S.set w c') ∧ IsPool c' ∧ v ∈ ns := by
  obtain ⟨v, c', hv, g, q⟩ := hp S w c (.lst (ns.map D.int)) (ns.map D.int) h hc (fun _ => rfl) (by rw [List.length_map]; exact l1) (by rw [List.length_map]; exact l2) (bels_ints _ _)
  have hv' : v < ns.length := by rw [List.length_map] at hv; exact hv
  refine ⟨ns[v], c', (fn2 h1 h2).trans (g.trans ?_), q, List.getElem_mem hv'⟩
  rw [List.getElem_map]
abbrev treeT (jd jp jm : Nat) : Sm :=
    (sSeq (sAsg (eBin oAdd (eVar 1) (eFn jd (aCons (eVar 0) (aCons (eC (D.int 4)) aNil)))) (gmN (gNm 2)))
      (sSeq
        (sAsg
          (eTup
            (aCons
              (eLc false (vSrc sRng (aCons (eVar 2) aNil)) (gNm 3) vYes
                (eBin oMulM (eLst false (aCons (eC (D.int 0)) aNil)) (eVar 2))
                [3])
              (aCons
                (eFn jp
                  (aCons (eVar 0)
                    (aCons (eLst false (aCons (eC (D.int 1)) (aCons (eC (D.int 3)) (aCons (eC (D.int 40)) aNil))))
                      aNil)))
                aNil))
            0)
          (gmTup (gsCons (gmN (gNm 4)) (gsCons (gmN (gNm 5)) gsNil))))
        (sSeq
          (sFor (vSrc sRng (aCons (eC (D.int 1)) (aCons (eVar 2) aNil))) (gmN (gNm 3))
            (sSeq
              (sPar [6, 7]
                (aCons (eFn jd (aCons (eVar 0) (aCons (eVar 3) aNil)))
                  (aCons (eFn jd (aCons (eVar 0) (aCons (eBin oAdd (eVar 5) (eC (D.int 1))) aNil))) aNil)))
              (sFor (vSrc sRng (aCons (eVar 3) aNil)) (gmN (gNm 8))
                (sSeq
                  (sAsg (eBin oAdd (eBin oIx (eBin oIx (eVar 4) (eVar 6)) (eVar 8)) (eVar 7))
                    (gmSub (eBin oIx (eVar 4) (eVar 3)) (eVar 8)))
                  (sAsg (eBin oIx (eBin oIx (eVar 4) (eVar 3)) (eVar 8))
                    (gmSub (eBin oIx (eVar 4) (eVar 8)) (eVar 3)))))))
          (sSeq (sAsg (eSl false (eFn jm (aCons (eVar 0) (aCons (eVar 2) aNil))) vNo (vSo (eVar 1))) (gmN (gNm 9)))
            (sRet
              (eCall (op1 fTuple)
                (aCons
                  (eLc false (fun Φ ρ => (eVar 9 Φ ρ).bind srcOf) (gNm 10) vYes
                    (eCall (op1 fTuple)
                      (aCons
                        (eLc false (fun Φ ρ => (eVar 9 Φ ρ).bind srcOf) (gNm 11) vYes
                          (eBin oIx (eBin oIx (eVar 4) (eVar 10)) (eVar 11))
                          [11])
                        aNil))
                    [10])
                  aNil)))))))
theorem treeP {N : List Str} {frz : Bool} {Φ : Ph} {jd jp jm : Nat} (hd : DrawOK (Φ jd)) (hp : PickOK (Φ jp)) (hm : MixedOK (Φ jm)) (hN : ∀ x y, startR N [x, y] = [some x, some y, none, none, none, none, none, none, none, none, none, none]) :
    TableOK (fun ds => runF N (treeT jd jp jm) frz Φ ds) fun n M => FP n (getM M) := by
  intro S w c n h hc h1 h8
  have hA : ∀ c, (S.set w c).length = S.length := fun c => len_set
  obtain ⟨v, c1, g1, hc1, v0, v1⟩ := drawE (Φ := Φ) (ρ := [some (.ref w), some (.int (n : Nat)), none, none, none, none, none, none, none, none, none, none]) (a := eVar 0) (b := eC (.int 4)) (m := 4) hd h hc rfl rfl (by decide) (by decide)
  obtain ⟨m, rfl⟩ : ∃ m : Nat, v = (m : Nat) := ⟨v.toNat, by omega⟩
  let s := n + m
  have hs : ((n : Nat) : Int) + ((m : Nat) : Int) = ((s : Nat) : Int) := by show _ = ((n + m : Nat) : Int); omega
  have hs11 : s ≤ 11 := by show n + m ≤ 11; omega
  have hs1 : 1 ≤ s := by show 1 ≤ n + m; omega
  have hw : ∀ (c : Cell) (B : Store), (S.set w c ++ B)[w]? = some c := fun c B => get_app (get_set h)
  have hw2 : ∀ (c d : Cell) (B : Store), (S.set w c ++ B).set w d = S.set w d ++ B := fun c d B => by rw [setA (get_set h), List.set_set]
  obtain ⟨hg, c2, g2, hc2, hgm⟩ := pickE (Φ := Φ) (ρ := [some (.ref w), some (.int (n : Nat)), some (.int (s : Nat)), none, none, none, none, none, none, none, none, none]) (a := eVar 0) (b := eLst false (aCons (eC (D.int 1)) (aCons (eC (D.int 3)) (aCons (eC (D.int 40)) aNil)))) (ns := [1, 3, 40]) hp (hw c1 (matC (zeroM s))) hc1 rfl rfl (by decide) (by decide)
  rw [hw2] at g2
  have hg0 : 1 ≤ hg ∧ hg ≤ 40 := by
    simp only [List.mem_cons, List.not_mem_nil, or_false] at hgm; omega
  let Inv : Nat → Ro → Store → Prop := fun i ρ S' => ∃ (c : Cell) (M : Mx) (x3 x6 x7 x8 : Option D), S' = S.set w c ++ matC M ∧ IsPool c ∧ Sq s M ∧ (∀ a, a < s → getM M a a = 0) ∧ Tree (i + 1) (40 * (i + 1)) (getM M) ∧ ρ = [some (.ref w), some (.int (n : Nat)), some (.int (s : Nat)), x3, some (.lst (refs S.length s)), some (.int hg), x6, x7, x8, none, none, none]
  obtain ⟨ρ', S', p3, c', M, x3, x6, x7, x8, rfl, hc', sq, dz, tr, rfl⟩ := sFor_rng (Φ := Φ) (lo := 1) (n := s - 1) (gm := gmN (gNm 3)) (sv := vSrc sRng (aCons (eC (D.int 1)) (aCons (eVar 2) aNil)))
      (b := sSeq
              (sPar [6, 7]
                (aCons (eFn jd (aCons (eVar 0) (aCons (eVar 3) aNil)))
                  (aCons (eFn jd (aCons (eVar 0) (aCons (eBin oAdd (eVar 5) (eC (D.int 1))) aNil))) aNil)))
              (sFor (vSrc sRng (aCons (eVar 3) aNil)) (gmN (gNm 8))
                (sSeq
                  (sAsg (eBin oAdd (eBin oIx (eBin oIx (eVar 4) (eVar 6)) (eVar 8)) (eVar 7))
                    (gmSub (eBin oIx (eVar 4) (eVar 3)) (eVar 8)))
                  (sAsg (eBin oIx (eBin oIx (eVar 4) (eVar 3)) (eVar 8))
                    (gmSub (eBin oIx (eVar 4) (eVar 8)) (eVar 3))))))
      (ρ := [some (.ref w), some (.int (n : Nat)), some (.int (s : Nat)), none, some (.lst (refs S.length s)), some (.int hg), none, none, none, none, none, none]) (S := S.set w c2 ++ matC (zeroM s))
      (src_rng2 (m := 1) (n := s) rfl rfl (by omega) (by omega)) Inv ⟨c2, zeroM s, _, _, _, _, rfl, hc2, zero_sq s, fun a _ => zero_get, zero_tree s, rfl⟩ (by
    rintro i ρ S' hi ⟨c, M, x3, x6, x7, x8, rfl, hc, sq, dz, tr, rfl⟩
    have ei : (1 : Int) + ((i : Nat) : Int) = ((i + 1 : Nat) : Int) := by omega
    rw [ei]
    obtain ⟨v1, c3, d1, hc3, v10, v11⟩ := drawE (Φ := Φ) (ρ := [some (.ref w), some (.int (n : Nat)), some (.int (s : Nat)), some (.int (i + 1 : Nat)), some (.lst (refs S.length s)), some (.int hg), x6, x7, x8, none, none, none]) (a := eVar 0) (b := eVar 3) (m := ((i + 1 : Nat) : Int)) hd (hw c (matC M)) hc rfl rfl (by omega) (by omega)
    obtain ⟨r, rfl⟩ : ∃ r : Nat, v1 = (r : Nat) := ⟨v1.toNat, by omega⟩
    have hr : r < i + 1 := by omega
    rw [hw2] at d1
    obtain ⟨g, c4, d2, hc4, g0, g9⟩ := drawE (Φ := Φ) (ρ := [some (.ref w), some (.int (n : Nat)), some (.int (s : Nat)), some (.int (i + 1 : Nat)), some (.lst (refs S.length s)), some (.int hg), x6, x7, x8, none, none, none]) (a := eVar 0) (b := eBin oAdd (eVar 5) (eC (D.int 1))) (m := hg + 1) hd (hw c3 (matC M)) hc3 rfl ((bin_of rfl rfl).trans rfl) (by omega) (by omega)
    rw [hw2] at d2
    obtain ⟨ρ', S', p, M', y8, rfl, sq', dz', k, k1, rfl⟩ := sFor_rng (Φ := Φ) (lo := 0) (n := i + 1) (gm := gmN (gNm 8)) (sv := vSrc sRng (aCons (eVar 3) aNil))
      (b := (sSeq
                  (sAsg (eBin oAdd (eBin oIx (eBin oIx (eVar 4) (eVar 6)) (eVar 8)) (eVar 7))
                    (gmSub (eBin oIx (eVar 4) (eVar 3)) (eVar 8)))
                  (sAsg (eBin oIx (eBin oIx (eVar 4) (eVar 3)) (eVar 8))
                    (gmSub (eBin oIx (eVar 4) (eVar 8)) (eVar 3)))))
      (ρ := [some (.ref w), some (.int (n : Nat)), some (.int (s : Nat)), some (.int (i + 1 : Nat)), some (.lst (refs S.length s)), some (.int hg), some (.int (r : Nat)), some (.int g), x8, none, none, none]) (S := S.set w c4 ++ matC M)
      (src_rng (n := i + 1) rfl (by omega)) (fun j ρ S' => ∃ (M' : Mx) (y8 : Option D), S' = S.set w c4 ++ matC M' ∧ Sq s M' ∧ (∀ a, a < s → getM M' a a = 0) ∧ (∀ a b, a < i + 1 → b < i + 1 → getM M' a b = getM M a b) ∧ (∀ b, b < j → getM M' (i + 1) b = getM M r b + g ∧ getM M' b (i + 1) = getM M r b + g) ∧ ρ = [some (.ref w), some (.int (n : Nat)), some (.int (s : Nat)), some (.int (i + 1 : Nat)), some (.lst (refs S.length s)), some (.int hg), some (.int (r : Nat)), some (.int g), y8, none, none, none])
      ⟨M, _, rfl, sq, dz, fun _ _ _ _ => rfl, fun b hb => absurd hb (Nat.not_lt_zero _), rfl⟩ (by
        rintro j ρ S' hj ⟨M', y8, rfl, sq', dz', k, k1, rfl⟩
        have ej : (0 : Int) + ((j : Nat) : Int) = ((j : Nat) : Int) := by omega
        rw [ej]
        let R : Ro := [some (.ref w), some (.int (n : Nat)), some (.int (s : Nat)), some (.int (i + 1 : Nat)), some (.lst (refs S.length s)), some (.int hg), some (.int (r : Nat)), some (.int g), some (.int (j : Nat)), none, none, none]
        have rd := read2 (Φ := Φ) (ρ := R) (A := S.set w c4) (M := M') (n := s) (i := r) (j := j) (a := eVar 4) (x := eVar 6) (y := eVar 8) sq' (by rw [hA]; rfl) rfl rfl (by omega) (by omega)
        have wr := write2 (Φ := Φ) (ρ := R) (A := S.set w c4) (M := M') (n := s) (i := i + 1) (j := j) (a := eVar 4) (x := eVar 3) (y := eVar 8) sq' (v := getM M' r j + g) (by rw [hA]; rfl) rfl rfl (by omega) (by omega)
        have rd2 := read2 (Φ := Φ) (ρ := R) (A := S.set w c4) (M := setM M' (i + 1) j (getM M' r j + g)) (n := s) (i := i + 1) (j := j) (a := eVar 4) (x := eVar 3) (y := eVar 8) (sq'.set (by omega)) (by rw [hA]; rfl) rfl rfl (by omega) (by omega)
        rw [getM_set sq' (by omega) (by omega), if_pos ⟨rfl, rfl⟩] at rd2
        have wr2 := write2 (Φ := Φ) (ρ := R) (A := S.set w c4) (M := setM M' (i + 1) j (getM M' r j + g)) (n := s) (i := j) (j := i + 1) (a := eVar 4) (x := eVar 8) (y := eVar 3) (sq'.set (by omega)) (v := getM M' r j + g) (by rw [hA]; rfl) rfl rfl (by omega) (by omega)
        have hij : i + 1 < s := by omega
        have hjs : j < s := by omega
        have gp : ∀ p q, getM (putM M' (i + 1) j (getM M' r j + g)) p q = if (p = i + 1 ∧ q = j) ∨ (p = j ∧ q = i + 1) then getM M' r j + g else getM M' p q := fun p q => getM_put sq' hij hjs
        refine ⟨R, _, R, _, rfl, .inl ((seq_of (asgG_of ((bin_of rd rfl).trans rfl) wr)).trans (asgG_of rd2 wr2)), putM M' (i + 1) j (getM M' r j + g), _, rfl, put_sq sq' hij hjs, fun a ha => ?_, fun a b ha hb => ?_, fun b hb => ?_, rfl⟩
        · rw [gp, if_neg (by omega)]; exact dz' a ha
        · rw [gp, if_neg (by omega)]; exact k a b ha hb
        · rw [gp, gp]
          rcases Nat.lt_succ_iff_lt_or_eq.mp hb with hb | rfl
          · rw [if_neg (by omega), if_neg (by omega)]; exact k1 b hb
          · rw [if_pos (.inl ⟨rfl, rfl⟩), if_pos (.inr ⟨rfl, rfl⟩), k r b (by omega) (by omega)]; exact ⟨rfl, rfl⟩)
    refine ⟨_, _, _, _, rfl, .inl ((seq_of (par_of (args2 d1 d2) rfl)).trans p), c4, M', _, _, _, _, rfl, hc4, sq', dz', ?_, rfl⟩
    have := tr.leaf (d' := getM M') (g := g) (C := 40) hr (by omega) (by omega) k k1 (dz' _ (by omega)) (by omega)
    have e : (40 : Int) * ((i + 1 : Nat) + 1) = 40 * ((i : Nat) + 1) + 40 := by omega
    rw [e]; exact this)
  have es : s - 1 + 1 = s := by omega
  rw [es] at tr
  obtain ⟨os, c5, g5, hc5, pm⟩ := hm (S.set w c' ++ matC M) w c' s (hw c' _) hc' (by omega)
  rw [hw2] at g5
  obtain ⟨is, rfl, pis⟩ := mixed_nats pm
  have hil : is.length = s := by rw [pis.length_eq, List.length_range]
  have hit : (is.take n).length = n := by rw [List.length_take]; show min n is.length = n; have : s = n + m := rfl; omega
  have hmem : ∀ i ∈ is.take n, i < s := fun i hi => List.mem_range.mp (pis.mem_iff.mp (List.mem_of_mem_take hi))
  obtain ⟨t1, t2⟩ := part_tb tr (by omega) hmem
  rw [hit] at t1 t2
  refine ⟨partM M (is.take n), c5, (run_st (d := tbl (partM M (is.take n))) (S1 := S.set w c5 ++ matC M) ?_ (tbl_bel _ _)).trans ?_, hc5, t1, t2⟩
  · rw [hN]
    refine seq_b (asg_b ((bin_of rfl g1).trans (add_b rfl)) rfl rfl) ?_
    rw [hs]
    refine seq_b (asgG_b (tup_of (args2 (zeroP (n := s) (by omega) (rng_len s) (src_rng rfl (by omega)) fun x hx S => ⟨[some (.ref w), some (.int (n : Nat)), some (.int (s : Nat)), some x, none, none, none, none, none, none, none, none], rfl, rfl⟩) g2) (by simp)) rfl rfl) ?_
    rw [hA]
    refine seq_b p3 ?_
    refine seq_b (asg_b (sl_b ((fn2 rfl rfl).trans g5) rfl (so_of rfl) (oSlT.trans rfl)) rfl rfl) (ret_b ?_ rfl)
    rw [cut_hi, ← List.map_take, ← List.map_take]
    refine (call1 (eLc_mapM (S1 := S.set w c5 ++ matC M) (l := is.take n) (fun i => D.int (i : Nat)) (fun i => D.tup ((is.take n).map fun j => D.int (getM M i j))) ?_ (by omega) fun i hi => ⟨[some (.ref w), some (.int (n : Nat)), some (.int (s : Nat)), x3, some (.lst (refs S.length s)), some (.int hg), x6, x7, x8, some (.tup (((is.take n).map fun i => ((i : Nat) : Int)).map D.int)), some (.int (i : Nat)), none], rfl, rfl, ?_⟩)).trans ?_
    · refine (src_of (a := eVar 9) rfl).trans ?_
      rw [List.map_map]; rfl
    · refine (call1 (eLc_mapM (S1 := S.set w c5 ++ matC M) (l := is.take n) (fun i => D.int (i : Nat)) (fun j => D.int (getM M i j)) ?_ (by omega) fun j hj => ⟨[some (.ref w), some (.int (n : Nat)), some (.int (s : Nat)), x3, some (.lst (refs S.length s)), some (.int hg), x6, x7, x8, some (.tup (((is.take n).map fun i => ((i : Nat) : Int)).map D.int)), some (.int (i : Nat)), some (.int (j : Nat))], rfl, rfl, ?_⟩)).trans rfl
      · refine (src_of (a := eVar 9) rfl).trans ?_
        rw [List.map_map]; rfl
      · exact read2 sq (by rw [hA]; rfl) rfl rfl (hmem i hi) (hmem j hj)
    · rw [tbl_part]; rfl
  · rw [← hA c5, take_app]
end G
end

section
set_option Elab.async false
set_option linter.all false
set_option maxRecDepth 100000
namespace G
open PySem PySem.Spec PyProof.Rows L2
theorem pickE2 {Φ : Ph} {ρ : Ro} {j : Nat} {a b : Ev} {S S2 : Store} {w : Nat} {c : Cell} {ns : List Int} (hp : PickOK (Φ j)) (h : S2[w]? = some c) (hc : IsPool c) (h1 : a Φ ρ S = .ok (.ref w) S) (h2 : b Φ ρ S = .ok (.lst (ns.map D.int)) S2) (l1 : 1 ≤ ns.length) (l2 : ns.length ≤ 1000000) :
    ∃ v c', eFn j (aCons a (aCons b aNil)) Φ ρ S = .ok (.int v) (S2.set w c') ∧ IsPool c' ∧ v ∈ ns := by
  obtain ⟨v, c', hv, g, q⟩ := hp S2 w c (.lst (ns.map D.int)) (ns.map D.int) h hc (fun _ => rfl) (by rw [List.length_map]; exact l1) (by rw [List.length_map]; exact l2) (bels_ints _ _)
  have hv' : v < ns.length := by rw [List.length_map] at hv; exact hv
  refine ⟨ns[v], c', (fn2 h1 h2).trans (g.trans ?_), q, List.getElem_mem hv'⟩
  rw [List.getElem_map]
/-! ### TABLEs of cuts -/
structure QI (n : Nat) (B : Int) (M : Mx) : Prop where
  sq : Sq n M
  lo : ∀ i j, i < n → j < n → 0 ≤ getM M i j
  hi : ∀ i j, i < n → j < n → getM M i j ≤ B
  sy : ∀ i j, i < n → j < n → getM M i j = getM M j i
  dg : ∀ i, i < n → getM M i i = 0
theorem QI.tb {n : Nat} {B : Int} {M : Mx} (h : QI n B M) (hB : B ≤ 999) : TbI n M := ⟨h.sq, h.lo, fun i j a b => Int.le_trans (h.hi i j a b) hB, h.sy, h.dg⟩
def CutOK (f : List D → M D) : Prop := ∀ (S : Store) (w : Nat) (c : Cell) (n : Nat) (os : List Int), S[w]? = some c → IsPool c → 1 ≤ n → n ≤ 8 → os.length = n → ∃ M c', f [.ref w, .tup (os.map D.int)] S = .ok (tbl M) (S.set w c') ∧ IsPool c' ∧ TbI n M
abbrev cutT (jd jp : Nat) : Sm :=
    (sSeq (sAsg (eCall (op1 fLen) (aCons (eVar 1) aNil)) (gmN (gNm 2)))
      (sSeq
        (sPar [3, 4]
          (aCons
            (eLc false (vSrc sRng (aCons (eVar 2) aNil)) (gNm 11) vYes
              (eBin oMulM (eLst false (aCons (eC (D.int 0)) aNil)) (eVar 2))
              [11])
            (aCons
              (eFn jp
                (aCons (eVar 0)
                  (aCons (eLst false (aCons (eC (D.int 1)) (aCons (eC (D.int 3)) (aCons (eC (D.int 20)) aNil)))) aNil)))
              aNil)))
        (sSeq
          (sFor (vSrc sRng (aCons (eVar 2) aNil)) (gmN (gNm 5))
            (sFor (vSrc sRng (aCons (eBin oAdd (eVar 5) (eC (D.int 1))) (aCons (eVar 2) aNil))) (gmN (gNm 6))
              (sSeq
                (sPar [7, 8]
                  (aCons (eSl false (eVar 1) (vSo (eVar 5)) (vSo (eVar 6)))
                    (aCons
                      (eFn jp
                        (aCons (eVar 0)
                          (aCons
                            (eLst false
                              (aCons (eC (D.int 0))
                                (aCons (eFn jd (aCons (eVar 0) (aCons (eBin oAdd (eVar 4) (eC (D.int 1))) aNil)))
                                  aNil)))
                            aNil)))
                      aNil)))
                (sFor (vSrc sRng (aCons (eVar 2) aNil)) (gmN (gNm 9))
                  (sFor (vSrc sRng (aCons (eVar 2) aNil)) (gmN (gNm 10))
                    (sIf (tCmp oNe (eBin oIn (eVar 9) (eVar 7)) (eBin oIn (eVar 10) (eVar 7)))
                      (sAsg (eBin oAdd (eBin oIx (eBin oIx (eVar 3) (eVar 9)) (eVar 10)) (eVar 8))
                        (gmSub (eBin oIx (eVar 3) (eVar 9)) (eVar 10)))
                      sNx))))))
          (sRet
            (eCall (op1 fTuple)
              (aCons
                (eLc false (fun Φ ρ => (eVar 3 Φ ρ).bind srcOf) (gNm 12) vYes
                  (eCall (op1 fTuple) (aCons (eVar 12) aNil))
                  [12])
                aNil))))))
def cutB : Nat → Int
  | 0 => 0 | 1 => 140 | 2 => 260 | 3 => 360 | 4 => 440 | 5 => 500 | 6 => 540 | _ => 560
theorem cutB_up {i : Nat} (h : i < 8) : cutB (i + 1) = cutB i + 20 * (7 - (i : Nat)) := by
  match i, h with
  | 0, _ => rfl | 1, _ => rfl | 2, _ => rfl | 3, _ => rfl | 4, _ => rfl | 5, _ => rfl | 6, _ => rfl | 7, _ => rfl
theorem in_ints {i : Int} {ns : List Int} {S : Store} : oIn (.int i) (.tup (ns.map D.int)) S = .ok (.bl (decide (i ∈ ns))) S := by
  refine (oIn_of (S := S) (xs := ns.map D.int) rfl (by rw [shps_ints]; rfl)).2.trans ?_
  show R.ok (D.bl (memD (.int i) (ns.map D.int))) S = _
  rw [memD_ints]
def delta (ins : List Int) (v : Int) (i j : Nat) : Int := if decide (((i : Nat) : Int) ∈ ins) = decide (((j : Nat) : Int) ∈ ins) then 0 else v
theorem delta_sy (ins : List Int) (v : Int) (i j : Nat) : delta ins v i j = delta ins v j i := by
  unfold delta
  by_cases c : decide (((i : Nat) : Int) ∈ ins) = decide (((j : Nat) : Int) ∈ ins)
  · rw [if_pos c, if_pos c.symm]
  · rw [if_neg c, if_neg fun z => c z.symm]
theorem cutP {N : List Str} {frz : Bool} {Φ : Ph} {jd jp : Nat} (hd : DrawOK (Φ jd)) (hp : PickOK (Φ jp)) (hN : ∀ x y, startR N [x, y] = [some x, some y, none, none, none, none, none, none, none, none, none, none, none]) :
    CutOK (fun ds => runF N (cutT jd jp) frz Φ ds) := by
  intro S w c n os h hc h1 h8 hl
  have hA : ∀ c, (S.set w c).length = S.length := fun c => len_set
  have hw : ∀ (c : Cell) (B : Store), (S.set w c ++ B)[w]? = some c := fun c B => get_app (get_set h)
  have hw2 : ∀ (c d : Cell) (B : Store), (S.set w c ++ B).set w d = S.set w d ++ B := fun c d B => by rw [setA (get_set h), List.set_set]
  let oD : D := .tup (os.map D.int)
  have zp : eLc false (vSrc sRng (aCons (eVar 2) aNil)) (gNm 11) vYes
              (eBin oMulM (eLst false (aCons (eC (D.int 0)) aNil)) (eVar 2))
              [11] Φ [some (.ref w), some oD, some (.int (n : Nat)), none, none, none, none, none, none, none, none, none, none] S = .ok (.lst (refs S.length n)) (S ++ matC (zeroM n)) :=
    zeroP (n := n) (by omega) (rng_len n) (src_rng rfl (by omega)) fun x hx S => ⟨[some (.ref w), some oD, some (.int (n : Nat)), none, none, none, none, none, none, none, none, some x, none], rfl, rfl⟩
  obtain ⟨hg, c1, g1, hc1, hgm⟩ := pickE (Φ := Φ) (ρ := [some (.ref w), some oD, some (.int (n : Nat)), none, none, none, none, none, none, none, none, none, none]) (a := eVar 0) (b := eLst false (aCons (eC (D.int 1)) (aCons (eC (D.int 3)) (aCons (eC (D.int 20)) aNil)))) (ns := [1, 3, 20]) hp (get_app (r := matC (zeroM n)) h) hc rfl rfl (by decide) (by decide)
  rw [setA h] at g1
  have hg0 : 1 ≤ hg ∧ hg ≤ 20 := by
    simp only [List.mem_cons, List.not_mem_nil, or_false] at hgm; omega
  let Rr : Option D → Option D → Option D → Option D → Option D → Option D → Ro := fun x5 x6 x7 x8 x9 x10 => [some (.ref w), some oD, some (.int (n : Nat)), some (.lst (refs S.length n)), some (.int hg), x5, x6, x7, x8, x9, x10, none, none]
  obtain ⟨ρ', S', p3, c', M, x5, x6, x7, x8, x9, x10, rfl, hc', q, rfl⟩ := sFor_rng (Φ := Φ) (lo := 0) (n := n) (gm := gmN (gNm 5)) (sv := vSrc sRng (aCons (eVar 2) aNil))
      (b := (sFor (vSrc sRng (aCons (eBin oAdd (eVar 5) (eC (D.int 1))) (aCons (eVar 2) aNil))) (gmN (gNm 6))
              (sSeq
                (sPar [7, 8]
                  (aCons (eSl false (eVar 1) (vSo (eVar 5)) (vSo (eVar 6)))
                    (aCons
                      (eFn jp
                        (aCons (eVar 0)
                          (aCons
                            (eLst false
                              (aCons (eC (D.int 0))
                                (aCons (eFn jd (aCons (eVar 0) (aCons (eBin oAdd (eVar 4) (eC (D.int 1))) aNil)))
                                  aNil)))
                            aNil)))
                      aNil)))
                (sFor (vSrc sRng (aCons (eVar 2) aNil)) (gmN (gNm 9))
                  (sFor (vSrc sRng (aCons (eVar 2) aNil)) (gmN (gNm 10))
                    (sIf (tCmp oNe (eBin oIn (eVar 9) (eVar 7)) (eBin oIn (eVar 10) (eVar 7)))
                      (sAsg (eBin oAdd (eBin oIx (eBin oIx (eVar 3) (eVar 9)) (eVar 10)) (eVar 8))
                        (gmSub (eBin oIx (eVar 3) (eVar 9)) (eVar 10)))
                      sNx))))))
      (ρ := Rr none none none none none none) (S := S.set w c1 ++ matC (zeroM n)) (src_rng (n := n) rfl (by omega))
      (fun i ρ S' => ∃ (c : Cell) (M : Mx) (x5 x6 x7 x8 x9 x10 : Option D), S' = S.set w c ++ matC M ∧ IsPool c ∧ QI n (cutB i) M ∧ ρ = Rr x5 x6 x7 x8 x9 x10)
      ⟨c1, zeroM n, _, _, _, _, _, _, rfl, hc1, ⟨zero_sq n, fun i j _ _ => by rw [zero_get]; decide, fun i j _ _ => by rw [zero_get]; decide, fun i j _ _ => by rw [zero_get, zero_get], fun i _ => zero_get⟩, rfl⟩ (by
    rintro i ρ S' hi ⟨c, M, x5, x6, x7, x8, x9, x10, rfl, hc, q, rfl⟩
    have ei : (0 : Int) + ((i : Nat) : Int) = ((i : Nat) : Int) := by omega
    rw [ei]
    obtain ⟨ρ', S', p, c', M', y6, y7, y8, y9, y10, rfl, hc', q', rfl⟩ := sFor_rng (Φ := Φ) (lo := ((i + 1 : Nat) : Int)) (n := n - (i + 1)) (gm := gmN (gNm 6)) (sv := vSrc sRng (aCons (eBin oAdd (eVar 5) (eC (D.int 1))) (aCons (eVar 2) aNil)))
      (b := (sSeq
                (sPar [7, 8]
                  (aCons (eSl false (eVar 1) (vSo (eVar 5)) (vSo (eVar 6)))
                    (aCons
                      (eFn jp
                        (aCons (eVar 0)
                          (aCons
                            (eLst false
                              (aCons (eC (D.int 0))
                                (aCons (eFn jd (aCons (eVar 0) (aCons (eBin oAdd (eVar 4) (eC (D.int 1))) aNil)))
                                  aNil)))
                            aNil)))
                      aNil)))
                (sFor (vSrc sRng (aCons (eVar 2) aNil)) (gmN (gNm 9))
                  (sFor (vSrc sRng (aCons (eVar 2) aNil)) (gmN (gNm 10))
                    (sIf (tCmp oNe (eBin oIn (eVar 9) (eVar 7)) (eBin oIn (eVar 10) (eVar 7)))
                      (sAsg (eBin oAdd (eBin oIx (eBin oIx (eVar 3) (eVar 9)) (eVar 10)) (eVar 8))
                        (gmSub (eBin oIx (eVar 3) (eVar 9)) (eVar 10)))
                      sNx)))))
      (ρ := Rr (some (.int (i : Nat))) x6 x7 x8 x9 x10) (S := S.set w c ++ matC M) (src_rng2 (m := i + 1) (n := n) ((bin_of rfl rfl).trans rfl) rfl (by omega) (by omega))
      (fun j ρ S' => ∃ (c : Cell) (M : Mx) (x6 x7 x8 x9 x10 : Option D), S' = S.set w c ++ matC M ∧ IsPool c ∧ QI n (cutB i + 20 * (j : Nat)) M ∧ ρ = Rr (some (.int (i : Nat))) x6 x7 x8 x9 x10)
      ⟨c, M, _, _, _, _, _, rfl, hc, by simpa using q, rfl⟩ (by
        rintro j ρ S' hj ⟨c, M, x6, x7, x8, x9, x10, rfl, hc, q, rfl⟩
        have ej : (((i + 1 : Nat) : Int)) + ((j : Nat) : Int) = ((i + 1 + j : Nat) : Int) := by omega
        rw [ej]
        let ins : List Int := cutD os (some ((i : Nat) : Int)) (some ((i + 1 + j : Nat) : Int))
        obtain ⟨d, c2, g2, hc2, d0, d1⟩ := drawE (Φ := Φ) (ρ := Rr (some (.int (i : Nat))) (some (.int (i + 1 + j : Nat))) x7 x8 x9 x10) (a := eVar 0) (b := eBin oAdd (eVar 4) (eC (D.int 1))) (m := hg + 1) hd (hw c (matC M)) hc rfl ((bin_of rfl rfl).trans rfl) (by omega) (by omega)
        rw [hw2] at g2
        obtain ⟨v, c3, g3, hc3, hv⟩ := pickE2 (Φ := Φ) (ρ := Rr (some (.int (i : Nat))) (some (.int (i + 1 + j : Nat))) x7 x8 x9 x10) (a := eVar 0) (b := eLst false (aCons (eC (D.int 0)) (aCons (eFn jd (aCons (eVar 0) (aCons (eBin oAdd (eVar 4) (eC (D.int 1))) aNil))) aNil))) (ns := [0, d]) hp (hw c2 (matC M)) hc2 rfl (lst_of (args2 rfl g2) (by simp)) (by simp) (by simp)
        rw [hw2] at g3
        have hv0 : 0 ≤ v ∧ v ≤ 20 := by
          simp only [List.mem_cons, List.not_mem_nil, or_false] at hv; omega
        let R2 : Option D → Option D → Ro := fun x9 x10 => Rr (some (.int (i : Nat))) (some (.int (i + 1 + j : Nat))) (some (.tup (ins.map D.int))) (some (.int v)) x9 x10
        have hs : sPar [7, 8]
                  (aCons (eSl false (eVar 1) (vSo (eVar 5)) (vSo (eVar 6)))
                    (aCons
                      (eFn jp
                        (aCons (eVar 0)
                          (aCons
                            (eLst false
                              (aCons (eC (D.int 0))
                                (aCons (eFn jd (aCons (eVar 0) (aCons (eBin oAdd (eVar 4) (eC (D.int 1))) aNil)))
                                  aNil)))
                            aNil)))
                      aNil)) Φ (Rr (some (.int (i : Nat))) (some (.int (i + 1 + j : Nat))) x7 x8 x9 x10) (S.set w c ++ matC M) = .nx (R2 x9 x10) (S.set w c3 ++ matC M) := by
          refine par_of (args2 (x := .tup (ins.map D.int)) ((sl_of rfl (so_of rfl) (so_of rfl)).trans (oSlT.trans ?_)) g3) rfl
          rw [cut_map]
        obtain ⟨ρ', S', p, M', z9, z10, rfl, sq', k', rfl⟩ := sFor_rng (Φ := Φ) (lo := 0) (n := n) (gm := gmN (gNm 9)) (sv := vSrc sRng (aCons (eVar 2) aNil))
          (b := (sFor (vSrc sRng (aCons (eVar 2) aNil)) (gmN (gNm 10))
                    (sIf (tCmp oNe (eBin oIn (eVar 9) (eVar 7)) (eBin oIn (eVar 10) (eVar 7)))
                      (sAsg (eBin oAdd (eBin oIx (eBin oIx (eVar 3) (eVar 9)) (eVar 10)) (eVar 8))
                        (gmSub (eBin oIx (eVar 3) (eVar 9)) (eVar 10)))
                      sNx)))
          (ρ := R2 x9 x10) (S := S.set w c3 ++ matC M) (src_rng (n := n) rfl (by omega))
          (fun a ρ S' => ∃ (M' : Mx) (z9 z10 : Option D), S' = S.set w c3 ++ matC M' ∧ Sq n M' ∧ (∀ p q, p < n → q < n → getM M' p q = getM M p q + if p < a then delta ins v p q else 0) ∧ ρ = R2 z9 z10)
          ⟨M, _, _, rfl, q.sq, fun p q _ _ => by rw [if_neg (Nat.not_lt_zero _), Int.add_zero], rfl⟩ (by
            rintro a ρ S' ha ⟨M1, z9, z10, rfl, sq1, k1, rfl⟩
            have ea : (0 : Int) + ((a : Nat) : Int) = ((a : Nat) : Int) := by omega
            rw [ea]
            obtain ⟨ρ', S', p, M2, y10, rfl, sq2, k2, rfl⟩ := sFor_rng (Φ := Φ) (lo := 0) (n := n) (gm := gmN (gNm 10)) (sv := vSrc sRng (aCons (eVar 2) aNil))
              (b := (sIf (tCmp oNe (eBin oIn (eVar 9) (eVar 7)) (eBin oIn (eVar 10) (eVar 7)))
                      (sAsg (eBin oAdd (eBin oIx (eBin oIx (eVar 3) (eVar 9)) (eVar 10)) (eVar 8))
                        (gmSub (eBin oIx (eVar 3) (eVar 9)) (eVar 10)))
                      sNx))
              (ρ := R2 (some (.int (a : Nat))) z10) (S := S.set w c3 ++ matC M1) (src_rng (n := n) rfl (by omega))
              (fun b ρ S' => ∃ (M2 : Mx) (y10 : Option D), S' = S.set w c3 ++ matC M2 ∧ Sq n M2 ∧ (∀ p q, p < n → q < n → getM M2 p q = getM M1 p q + if p = a ∧ q < b then delta ins v p q else 0) ∧ ρ = R2 (some (.int (a : Nat))) y10)
              ⟨M1, _, rfl, sq1, fun p q _ _ => by rw [if_neg (fun z => Nat.not_lt_zero _ z.2), Int.add_zero], rfl⟩ (by
                rintro b ρ S' hb ⟨M2, y10, rfl, sq2, k2, rfl⟩
                have eb : (0 : Int) + ((b : Nat) : Int) = ((b : Nat) : Int) := by omega
                rw [eb]
                refine ⟨R2 (some (.int (a : Nat))) (some (.int (b : Nat))), _, R2 (some (.int (a : Nat))) (some (.int (b : Nat))), S.set w c3 ++ matC (if decide (((a : Nat) : Int) ∈ ins) = decide (((b : Nat) : Int) ∈ ins) then M2 else setM M2 a b (getM M2 a b + v)), rfl, .inl ?_, _, _, rfl, ?_, ?_, rfl⟩
                · refine sif_b (cmp_of (bin_b rfl rfl in_ints) (bin_b rfl rfl in_ints) (neb_b rfl)) ?_
                  by_cases e : decide (((a : Nat) : Int) ∈ ins) = decide (((b : Nat) : Int) ∈ ins)
                  · rw [if_pos e, e, beq_self_eq_true]; rfl
                  · rw [if_neg e, beq_eq_false_iff_ne.mpr e]
                    refine cond_t ?_
                    refine asgG_of (d := .int (getM M2 a b + v)) (bin_b (read2 sq2 (by rw [hA]; rfl) rfl rfl ha hb) rfl (add_b rfl)) ?_
                    exact write2 sq2 (by rw [hA]; rfl) rfl rfl ha hb
                · split
                  · exact sq2
                  · exact sq2.set ha
                · intro p q hp hq
                  by_cases e : decide (((a : Nat) : Int) ∈ ins) = decide (((b : Nat) : Int) ∈ ins)
                  · rw [if_pos e, k2 p q hp hq]
                    by_cases z : p = a ∧ q < b
                    · rw [if_pos z, if_pos ⟨z.1, by omega⟩]
                    · rw [if_neg z]
                      by_cases z2 : p = a ∧ q < b + 1
                      · have e1 : p = a := z2.1
                        have e2 : q = b := by omega
                        subst e1; subst e2
                        rw [if_pos z2]; unfold delta; rw [if_pos e]
                      · rw [if_neg z2]
                  · rw [if_neg e, getM_set sq2 ha hb]
                    by_cases z0 : p = a ∧ q = b
                    · rw [if_pos z0, z0.1, z0.2, k2 a b ha hb, if_neg (by omega), if_pos (by omega)]
                      unfold delta; rw [if_neg e]; omega
                    · rw [if_neg z0, k2 p q hp hq]
                      by_cases z : p = a ∧ q < b
                      · rw [if_pos z, if_pos ⟨z.1, by omega⟩]
                      · rw [if_neg z, if_neg (by omega)])
            refine ⟨_, _, _, _, rfl, .inl p, M2, _, _, rfl, sq2, fun p q hp hq => ?_, rfl⟩
            rw [k2 p q hp hq, k1 p q hp hq]
            by_cases z : p < a
            · rw [if_pos z, if_neg (by omega : ¬ (p = a ∧ q < n)), if_pos (by omega : p < a + 1)]; omega
            · rw [if_neg z]
              by_cases z2 : p = a
              · rw [if_pos ⟨z2, hq⟩, if_pos (by omega : p < a + 1)]; omega
              · rw [if_neg (by omega : ¬ (p = a ∧ q < n)), if_neg (by omega : ¬ p < a + 1)]; omega)
        have k2 : ∀ p q, p < n → q < n → getM M' p q = getM M p q + delta ins v p q := fun p q hp hq => by rw [k' p q hp hq, if_pos hp]
        have dl : ∀ p q, 0 ≤ delta ins v p q ∧ delta ins v p q ≤ 20 := fun p q => by unfold delta; split <;> omega
        refine ⟨_, _, _, _, rfl, .inl ((seq_of hs).trans p), c3, M', _, _, _, _, _, rfl, hc3, ⟨sq', fun p r hp hr => ?_, fun p r hp hr => ?_, fun p r hp hr => ?_, fun p hp => ?_⟩, rfl⟩
        · rw [k2 p r hp hr]; have := q.lo p r hp hr; have := dl p r; omega
        · rw [k2 p r hp hr]; have := q.hi p r hp hr; have := dl p r; omega
        · rw [k2 p r hp hr, k2 r p hr hp, q.sy p r hp hr, delta_sy]
        · rw [k2 p p hp hp, q.dg p hp]; unfold delta; rw [if_pos rfl]; rfl)
    refine ⟨_, _, _, _, rfl, .inl p, c', M', _, _, _, _, _, _, rfl, hc', ⟨q'.sq, q'.lo, fun p r hp hr => ?_, q'.sy, q'.dg⟩, rfl⟩
    have := q'.hi p r hp hr
    rw [cutB_up (by omega)]
    omega)
  have tb : TbI n M := q.tb (by
    have : ∀ i, i ≤ 8 → cutB i ≤ 999 := by decide
    exact this n h8)
  refine ⟨M, c', (run_st (d := tbl M) (S1 := S.set w c' ++ matC M) ?_ (tbl_bel _ _)).trans ?_, hc', tb⟩
  · rw [hN]
    refine seq_b (asg_b ((call1 rfl).trans (fLen_of (xs := os.map D.int) rfl)) rfl rfl) ?_
    rw [List.length_map, hl]
    refine seq_b (par_of (args2 zp g1) rfl) ?_
    refine seq_b p3 (ret_of ?_)
    exact freezeP tb.sq (by omega) (by rw [hA]; rfl) fun d => ⟨[some (.ref w), some oD, some (.int (n : Nat)), some (.lst (refs S.length n)), some (.int hg), x5, x6, x7, x8, x9, x10, none, some d], rfl, fun _ => rfl⟩
  · rw [← hA c', take_app]
/-! ### bent TABLEs -/
theorem lc1_cellsG {α : Type} {gv : Gv} {t : Ro → M Bool} {e : Ro → M D} {ρ : Ro} (g : α → D) (f : α → List D) : ∀ {l : List α} {S : Store}, (∀ x ∈ l, ∀ S, ∃ ρ1, gv (g x) ρ = some ρ1 ∧ t ρ1 S = .ok true S ∧ e ρ1 S = .ok (.ref S.length) (S ++ [.lst (f x)])) →
    lc1 (M.ok ()) gv t e ρ ((l.map g).map M.ok) S = .ok (refs S.length l.length) (S ++ l.map fun x => .lst (f x))
  | [], S, _ => by
    rw [List.length_nil, List.map_nil, List.map_nil, List.map_nil, List.append_nil]; rfl
  | x :: r, S, h => by
    obtain ⟨ρ1, h1, h2, h3⟩ := h x List.mem_cons_self S
    have ih := lc1_cellsG g f (l := r) (S := S ++ [.lst (f x)]) fun z hz => h z (List.mem_cons_of_mem _ hz)
    rw [List.map_cons, List.map_cons]
    unfold lc1
    rw [bind_of (show (M.ok (g x) : M D) S = .ok (g x) S from rfl), bind_of (show tgM gv (g x) ρ S = .ok ρ1 S by unfold tgM; rw [h1]), bind_of h2]
    show M.bind (e ρ1) _ S = _
    rw [bind_of h3, bind_of ih]
    show R.ok (D.ref S.length :: refs (S ++ [Cell.lst (f x)]).length r.length) _ = _
    rw [List.length_cons, refs_succ, List.length_append, List.map_cons, List.append_assoc]
    rfl
theorem thawP {sv : Sv} {gv : Gv} {ev : Ev} {vs : List Nat} {Φ : Ph} {ρ : Ro} {S : Store} {M : Mx} (hn : M.length ≤ 1000) (hs : sv Φ ρ S = .ok (fixS (M.map fun r => .tup (r.map D.int))) S) (h : ∀ d, ∃ ρ1, gv d (wipeR ρ vs) = some ρ1 ∧ ∀ S, ev Φ ρ1 S = .ok d S) :
    eLc false sv gv vYes (eCall (op1 (fList true)) (aCons ev aNil)) vs Φ ρ S = .ok (.lst (refs S.length M.length)) (S ++ matC M) := by
  unfold eLc
  rw [bind_of hs]
  show G.M.bind (lc1 (G.M.ok ()) gv (vYes Φ) _ (wipeR ρ vs) ((M.map fun r => D.tup (r.map D.int)).map G.M.ok)) (lcF false) S = _
  have q := lc1_cellsG (gv := gv) (t := vYes Φ) (e := eCall (op1 (fList true)) (aCons ev aNil) Φ) (ρ := wipeR ρ vs) (fun r : List Int => D.tup (r.map D.int)) (fun r => r.map D.int) (l := M) (S := S) fun x hx S => by
    obtain ⟨ρ1, h1, h2⟩ := h (.tup (x.map D.int))
    refine ⟨ρ1, h1, rfl, (call1 (h2 S)).trans ?_⟩
    show mkLst true (x.map D.int) S = _
    exact mk_new (bels_ints _ _)
  rw [bind_of q]
  unfold lcF
  rw [if_pos (by unfold refs; simp; omega)]
  rfl
theorem srcT {a : Ev} {Φ : Ph} {ρ : Ro} {S : Store} {xs : List D} (h : a Φ ρ S = .ok (.tup xs) S) : ((fun Φ ρ => (a Φ ρ).bind srcOf : Sv) Φ ρ S) = .ok (fixS xs) S := (src_of h).trans rfl
theorem srcL {a : Ev} {Φ : Ph} {ρ : Ro} {S S1 : Store} {xs : List D} (h : a Φ ρ S = .ok (.lst xs) S1) : ((fun Φ ρ => (a Φ ρ).bind srcOf : Sv) Φ ρ S) = .ok (fixS xs) S1 := (src_of h).trans rfl
def BentOK (f : List D → M D) : Prop := ∀ (S : Store) (w : Nat) (c : Cell) (n : Nat) (M : Mx), S[w]? = some c → IsPool c → 1 ≤ n → n ≤ 8 → TbI n M → ∃ M' c', f [.ref w, tbl M] S = .ok (tbl M') (S.set w c') ∧ IsPool c' ∧ TbI n M'
abbrev bentT (jd jp : Nat) : Sm :=
    (sSeq (sAsg (eCall (op1 fLen) (aCons (eVar 1) aNil)) (gmN (gNm 2)))
      (sSeq
        (sPar [3, 4]
          (aCons (eFn jd (aCons (eVar 0) (aCons (eVar 2) aNil)))
            (aCons (eFn jd (aCons (eVar 0) (aCons (eVar 2) aNil))) aNil)))
        (sSeq
          (sAsg
            (eLc false (fun Φ ρ => (eVar 1 Φ ρ).bind srcOf) (gNm 6) vYes
              (eCall (op1 (fList true)) (aCons (eVar 6) aNil))
              [6])
            (gmN (gNm 5)))
          (sSeq
            (sIf (tCmp oNe (eVar 3) (eVar 4))
              (sSeq
                (sAsg
                  (eCall (op2 fMax2)
                    (aCons (eC (D.int 0))
                      (aCons
                        (eCall (op2 fMin2)
                          (aCons (eC (D.int 999))
                            (aCons
                              (eBin oAdd (eBin oIx (eBin oIx (eVar 5) (eVar 3)) (eVar 4))
                                (eFn jp
                                  (aCons (eVar 0)
                                    (aCons
                                      (eLst false
                                        (aCons (eUn uNeg (eC (D.int 1)))
                                          (aCons (eC (D.int 1)) (aCons (eC (D.int 2)) aNil))))
                                      aNil))))
                              aNil)))
                        aNil)))
                  (gmSub (eBin oIx (eVar 5) (eVar 3)) (eVar 4)))
                (sAsg (eBin oIx (eBin oIx (eVar 5) (eVar 3)) (eVar 4)) (gmSub (eBin oIx (eVar 5) (eVar 4)) (eVar 3))))
              sNx)
            (sRet
              (eCall (op1 fTuple)
                (aCons
                  (eLc false (fun Φ ρ => (eVar 5 Φ ρ).bind srcOf) (gNm 6) vYes
                    (eCall (op1 fTuple) (aCons (eVar 6) aNil))
                    [6])
                  aNil)))))))
theorem bentP {N : List Str} {frz : Bool} {Φ : Ph} {jd jp : Nat} (hd : DrawOK (Φ jd)) (hp : PickOK (Φ jp)) (hN : ∀ x y, startR N [x, y] = [some x, some y, none, none, none, none, none]) :
    BentOK (fun ds => runF N (bentT jd jp) frz Φ ds) := by
  intro S w c n M h hc h1 h8 tb
  have hA : ∀ c, (S.set w c).length = S.length := fun c => len_set
  have hw : ∀ (c : Cell) (B : Store), (S.set w c ++ B)[w]? = some c := fun c B => get_app (get_set h)
  have hw1 : ∀ (c : Cell), (S.set w c)[w]? = some c := fun c => get_set h
  have hw2 : ∀ (c d : Cell) (B : Store), (S.set w c ++ B).set w d = S.set w d ++ B := fun c d B => by rw [setA (get_set h), List.set_set]
  obtain ⟨a, c1, g1, hc1, a0, a1⟩ := drawE (Φ := Φ) (ρ := [some (.ref w), some (tbl M), some (.int (n : Nat)), none, none, none, none]) (a := eVar 0) (b := eVar 2) (m := ((n : Nat) : Int)) hd h hc rfl rfl (by omega) (by omega)
  obtain ⟨p, rfl⟩ : ∃ p : Nat, a = (p : Nat) := ⟨a.toNat, by omega⟩
  obtain ⟨b, c2, g2, hc2, b0, b1⟩ := drawE (Φ := Φ) (ρ := [some (.ref w), some (tbl M), some (.int (n : Nat)), none, none, none, none]) (a := eVar 0) (b := eVar 2) (m := ((n : Nat) : Int)) hd (hw1 c1) hc1 rfl rfl (by omega) (by omega)
  obtain ⟨q, rfl⟩ : ∃ q : Nat, b = (q : Nat) := ⟨b.toNat, by omega⟩
  rw [List.set_set] at g2
  have hp' : p < n := by omega
  have hq' : q < n := by omega
  let R0 : Ro := [some (.ref w), some (tbl M), some (.int (n : Nat)), some (.int (p : Nat)), some (.int (q : Nat)), none, none]
  let R1 : Ro := [some (.ref w), some (tbl M), some (.int (n : Nat)), some (.int (p : Nat)), some (.int (q : Nat)), some (.lst (refs S.length n)), none]
  have th : eLc false (fun Φ ρ => (eVar 1 Φ ρ).bind srcOf) (gNm 6) vYes
              (eCall (op1 (fList true)) (aCons (eVar 6) aNil)) [6] Φ R0 (S.set w c2) = .ok (.lst (refs S.length n)) (S.set w c2 ++ matC M) := by
    refine (thawP (M := M) (by rw [tb.sq.1]; omega) (srcT rfl) fun d => ⟨[some (.ref w), some (tbl M), some (.int (n : Nat)), some (.int (p : Nat)), some (.int (q : Nat)), none, some d], rfl, fun _ => rfl⟩).trans ?_
    rw [hA, tb.sq.1]
  obtain ⟨M', c', hm, hc', tb'⟩ : ∃ M' c', sIf (tCmp oNe (eVar 3) (eVar 4))
              (sSeq
                (sAsg
                  (eCall (op2 fMax2)
                    (aCons (eC (D.int 0))
                      (aCons
                        (eCall (op2 fMin2)
                          (aCons (eC (D.int 999))
                            (aCons
                              (eBin oAdd (eBin oIx (eBin oIx (eVar 5) (eVar 3)) (eVar 4))
                                (eFn jp
                                  (aCons (eVar 0)
                                    (aCons
                                      (eLst false
                                        (aCons (eUn uNeg (eC (D.int 1)))
                                          (aCons (eC (D.int 1)) (aCons (eC (D.int 2)) aNil))))
                                      aNil))))
                              aNil)))
                        aNil)))
                  (gmSub (eBin oIx (eVar 5) (eVar 3)) (eVar 4)))
                (sAsg (eBin oIx (eBin oIx (eVar 5) (eVar 3)) (eVar 4)) (gmSub (eBin oIx (eVar 5) (eVar 4)) (eVar 3))))
              sNx Φ R1 (S.set w c2 ++ matC M) = .nx R1 (S.set w c' ++ matC M') ∧ IsPool c' ∧ TbI n M' := by
    by_cases e : p = q
    · refine ⟨M, c2, sif_b (cmp_of rfl rfl (nei_b rfl)) ?_, hc2, tb⟩
      rw [e, beq_self_eq_true]; rfl
    · obtain ⟨v, c3, g3, hc3, hv⟩ := pickE (Φ := Φ) (ρ := R1) (a := eVar 0) (b := eLst false (aCons (eUn uNeg (eC (D.int 1))) (aCons (eC (D.int 1)) (aCons (eC (D.int 2)) aNil)))) (ns := [-1, 1, 2]) hp (hw c2 (matC M)) hc2 rfl rfl (by decide) (by decide)
      rw [hw2] at g3
      let x : Int := getM M p q + v
      let y : Int := if x < 999 then x else 999
      let z : Int := if y > 0 then y else 0
      have z0 : 0 ≤ z ∧ z ≤ 999 := by
        show 0 ≤ (if y > 0 then y else 0) ∧ (if y > 0 then y else 0) ≤ 999
        have : y ≤ 999 := by show (if x < 999 then x else 999) ≤ 999; split <;> omega
        split <;> omega
      refine ⟨putM M p q z, c3, sif_b (cmp_of rfl rfl (nei_b rfl)) ?_, hc3, put_tb tb hp' hq' e z0.1 z0.2⟩
      rw [beq_eq_false_iff_ne.mpr (by omega : ((p : Nat) : Int) ≠ ((q : Nat) : Int))]
      refine cond_t ?_
      have rd := read2 (Φ := Φ) (ρ := R1) (A := S.set w c2) (M := M) (n := n) (i := p) (j := q) (a := eVar 5) (x := eVar 3) (y := eVar 4) tb.sq (by rw [hA]; rfl) rfl rfl hp' hq'
      have wr := write2 (Φ := Φ) (ρ := R1) (A := S.set w c3) (M := M) (n := n) (i := p) (j := q) (a := eVar 5) (x := eVar 3) (y := eVar 4) tb.sq (v := z) (by rw [hA]; rfl) rfl rfl hp' hq'
      have rd2 := read2 (Φ := Φ) (ρ := R1) (A := S.set w c3) (M := setM M p q z) (n := n) (i := p) (j := q) (a := eVar 5) (x := eVar 3) (y := eVar 4) (tb.sq.set hp') (by rw [hA]; rfl) rfl rfl hp' hq'
      rw [getM_set tb.sq hp' hq', if_pos ⟨rfl, rfl⟩] at rd2
      have wr2 := write2 (Φ := Φ) (ρ := R1) (A := S.set w c3) (M := setM M p q z) (n := n) (i := q) (j := p) (a := eVar 5) (x := eVar 4) (y := eVar 3) (tb.sq.set hp') (v := z) (by rw [hA]; rfl) rfl rfl hq' hp'
      refine seq_b (asgG_of (d := .int z) ?_ wr) (asgG_of rd2 wr2)
      refine (call2 rfl ((call2 rfl (bin_b rd g3 (add_b rfl))).trans rfl)).trans rfl
  refine ⟨M', c', (run_st (d := tbl M') (S1 := S.set w c' ++ matC M') ?_ (tbl_bel _ _)).trans ?_, hc', tb'⟩
  · rw [hN]
    refine seq_b (asg_b ((call1 rfl).trans (fLen_of (xs := M.map fun r => .tup (r.map D.int)) rfl)) rfl rfl) ?_
    rw [List.length_map, tb.sq.1]
    refine seq_b (par_of (args2 g1 g2) rfl) (seq_b (asg_b th rfl rfl) (seq_b hm (ret_of ?_)))
    exact freezeP tb'.sq (by omega) (by rw [hA]; rfl) fun d => ⟨[some (.ref w), some (tbl M), some (.int (n : Nat)), some (.int (p : Nat)), some (.int (q : Nat)), some (.lst (refs S.length n)), some d], rfl, fun _ => rfl⟩
  · rw [← hA c', take_app]
end G
end

section
set_option Elab.async false
set_option linter.all false
set_option maxRecDepth 100000
namespace G
open PySem PySem.Spec PyProof.Rows L2
/-! ### two clauses -/
section
variable {sv sv1 : Sv} {gv gv1 : Gv} {tv tv1 : Tv} {ev : Ev} {vs vs1 : List Nat} {Φ : Ph} {ρ : Ro} {S S1 : Store}
theorem lc2_mapM {α β : Type} {ρ : Ro} (g : α → D) (h : α → List β) (g1 : α → β → D) (p : α → β → Bool) (f : α → β → D) : ∀ {l : List α},
    (∀ x ∈ l, ∃ ρ1, gv (g x) ρ = some ρ1 ∧ tv Φ ρ1 S = .ok true S ∧ sv1 Φ ρ1 S = .ok (fixS ((h x).map (g1 x))) S ∧ ∀ y ∈ h x, ∃ ρ2, gv1 (g1 x y) (wipeR ρ1 vs1) = some ρ2 ∧ tv1 Φ ρ2 S = .ok (p x y) S ∧ (p x y = true → ev Φ ρ2 S = .ok (f x y) S)) →
    lc2 (M.ok ()) gv (tv Φ) (sv1 Φ) vs1 gv1 (tv1 Φ) (ev Φ) ρ ((l.map g).map M.ok) S = .ok (l.flatMap fun x => ((h x).filter (p x)).map (f x)) S
  | [], _ => rfl
  | x :: r, H => by
    obtain ⟨ρ1, h1, h2, h3, h4⟩ := H x List.mem_cons_self
    have ih := lc2_mapM g h g1 p f fun y hy => H y (List.mem_cons_of_mem _ hy)
    rw [List.map_cons, List.map_cons]
    unfold lc2
    rw [bind_of (show (M.ok (g x) : M D) S = .ok (g x) S from rfl), bind_of (show tgM gv (g x) ρ S = .ok ρ1 S by unfold tgM; rw [h1]), bind_of h2]
    show M.bind (sv1 Φ ρ1) _ S = _
    rw [bind_of h3]
    show M.bind (lc1 (M.ok ()) gv1 (tv1 Φ) (ev Φ) (wipeR ρ1 vs1) (((h x).map (g1 x)).map M.ok)) _ S = _
    rw [bind_of (lc1_filtM (g1 x) (p x) (f x) h4), bind_of ih, List.flatMap_cons]
    rfl
theorem eLc2_mapM {α β : Type} {l : List α} (g : α → D) (h : α → List β) (g1 : α → β → D) (p : α → β → Bool) (f : α → β → D) (hs : sv Φ ρ S = .ok (fixS (l.map g)) S1) (hz : (l.flatMap fun x => ((h x).filter (p x)).map (f x)).length ≤ 16777216)
    (H : ∀ x ∈ l, ∃ ρ1, gv (g x) (wipeR ρ vs) = some ρ1 ∧ tv Φ ρ1 S1 = .ok true S1 ∧ sv1 Φ ρ1 S1 = .ok (fixS ((h x).map (g1 x))) S1 ∧ ∀ y ∈ h x, ∃ ρ2, gv1 (g1 x y) (wipeR ρ1 vs1) = some ρ2 ∧ tv1 Φ ρ2 S1 = .ok (p x y) S1 ∧ (p x y = true → ev Φ ρ2 S1 = .ok (f x y) S1)) :
    eLc2 false sv gv tv sv1 vs1 gv1 tv1 ev vs Φ ρ S = .ok (.lst (l.flatMap fun x => ((h x).filter (p x)).map (f x))) S1 := by
  unfold eLc2
  rw [bind_of hs]
  show M.bind (lc2 (M.ok ()) gv (tv Φ) (sv1 Φ) vs1 gv1 (tv1 Φ) (ev Φ) (wipeR ρ vs) ((l.map g).map M.ok)) (lcF false) S1 = _
  rw [bind_of (lc2_mapM g h g1 p f H)]
  unfold lcF
  rw [if_pos hz]
  rfl
end
/-! ### small defs of the program -/
theorem chainLe {Φ : Ph} {ρ : Ro} {S : Store} {a b c : Ev} {x y z : Int} (h1 : a Φ ρ S = .ok (.int x) S) (h2 : b Φ ρ S = .ok (.int y) S) (h3 : c Φ ρ S = .ok (.int z) S) : eChain oLe oLe a b c Φ ρ S = .ok (.bl (decide (x ≤ y) && decide (y ≤ z))) S := by
  refine chain_b h1 h2 (le_b rfl) ?_
  cases decide (x ≤ y) with
  | true => exact cond_t (bind_b h3 (le_b rfl))
  | false => rfl
theorem chainLt {Φ : Ph} {ρ : Ro} {S : Store} {a b c : Ev} {x y z : Int} (h1 : a Φ ρ S = .ok (.int x) S) (h2 : b Φ ρ S = .ok (.int y) S) (h3 : c Φ ρ S = .ok (.int z) S) : eChain oLt oLt a b c Φ ρ S = .ok (.bl (decide (x < y) && decide (y < z))) S := by
  refine chain_b h1 h2 (lt_b rfl) ?_
  cases decide (x < y) with
  | true => exact cond_t (bind_b h3 (lt_b rfl))
  | false => rfl
abbrev wholeT : Sm := sRet (eAnd (vIsi "int" (eVar 0)) (eNot (vIsi "bool" (eVar 0))))
def WholeI (f : List D → M D) : Prop := ∀ (i : Int) (S : Store), f [.int i] S = .ok (.bl true) S
theorem wholeP {N : List Str} {frz : Bool} {Φ : Ph} (hN : ∀ x, startR N [x] = [some x]) : WholeI fun ds => runF N wholeT frz Φ ds := by
  intro i S
  refine run_bl ?_
  rw [hN]; rfl
abbrev betwT (jw : Nat) : Sm := sRet (eAnd (eFn jw (aCons (eVar 0) aNil)) (eChain oLe oLe (eVar 1) (eVar 0) (eVar 2)))
def BetwI (f : List D → M D) : Prop := ∀ (i l h : Int) (S : Store), f [.int i, .int l, .int h] S = .ok (.bl (decide (l ≤ i) && decide (i ≤ h))) S
theorem betwP {N : List Str} {frz : Bool} {Φ : Ph} {jw : Nat} (hw : WholeI (Φ jw)) (hN : ∀ x y z, startR N [x, y, z] = [some x, some y, some z]) : BetwI fun ds => runF N (betwT jw) frz Φ ds := by
  intro i l h S
  refine run_bl ?_
  rw [hN]
  refine ret_of ((and_t ((fn1 rfl).trans (hw i S))).trans (chainLe rfl rfl rfl))
abbrev tupOfT : Sm := sRet (eAnd (vIsi "tuple" (eVar 0)) (eBin oEq (eCall (op1 fLen) (aCons (eVar 0) aNil)) (eVar 1)))
def TupOf (f : List D → M D) : Prop := ∀ (xs : List D) (m : Int) (S : Store), f [.tup xs, .int m] S = .ok (.bl ((xs.length : Int) == m)) S
theorem tupOfP {N : List Str} {frz : Bool} {Φ : Ph} (hN : ∀ x y, startR N [x, y] = [some x, some y]) : TupOf fun ds => runF N tupOfT frz Φ ds := by
  intro xs m S
  refine run_bl ?_
  rw [hN]
  exact ret_of ((and_t rfl).trans (bin_b ((call1 rfl).trans (fLen_of rfl)) rfl (eqi_b rfl)))
abbrev idxT (jb : Nat) : Sm := sRet
      (eAnd (vIsi "tuple" (eVar 1))
        (eCall (op1 fAll)
          (aCons
            (eLc false (fun Φ ρ => (eVar 1 Φ ρ).bind srcOf) (gNm 2) vYes
              (eFn jb (aCons (eVar 2) (aCons (eC (D.int 0)) (aCons (eBin oSub (eVar 0) (eC (D.int 1))) aNil))))
              [2])
            aNil)))
def IdxI (f : List D → M D) : Prop := ∀ (many : Int) (ns : List Int) (S : Store), ns.length ≤ 1000 → f [.int many, .tup (ns.map D.int)] S = .ok (.bl (ns.all fun i => decide (0 ≤ i) && decide (i ≤ many - 1))) S
theorem idxP {N : List Str} {frz : Bool} {Φ : Ph} {jb : Nat} (hb : BetwI (Φ jb)) (hN : ∀ x y, startR N [x, y] = [some x, some y, none]) : IdxI fun ds => runF N (idxT jb) frz Φ ds := by
  intro many ns S hl
  refine run_bl ?_
  rw [hN]
  refine ret_of ((and_t rfl).trans ((call1 (eLc_mapM (S1 := S) (l := ns) D.int (fun i => D.bl (decide (0 ≤ i) && decide (i ≤ many - 1))) (srcT rfl) (by omega) fun i hi => ⟨[some (.int many), some (.tup (ns.map D.int)), some (.int i)], rfl, rfl, ?_⟩)).trans (fAll_map _ _ _)))
  exact (fn3 rfl rfl (bin_b rfl rfl (sub_b rfl))).trans (hb i 0 (many - 1) S)
abbrev risT : Sm := sRet
      (eCall (op1 fAll)
        (aCons
          (eLc false (vSrc sRng (aCons (eC (D.int 1)) (aCons (eCall (op1 fLen) (aCons (eVar 0) aNil)) aNil))) (gNm 1)
            vYes (eBin oLt (eBin oIx (eVar 0) (eBin oSub (eVar 1) (eC (D.int 1)))) (eBin oIx (eVar 0) (eVar 1)))
            [1])
          aNil))
def risingB (ns : List Int) : Bool := (List.range (ns.length - 1)).all fun i => decide (ns.getD i 0 < ns.getD (i + 1) 0)
def RisI (f : List D → M D) : Prop := ∀ (d : D) (ns : List Int) (S : Store), ns.length ≤ 1000 → seqOf d S = some (ns.map D.int) → f [d] S = .ok (.bl (risingB ns)) S
theorem risP {N : List Str} {frz : Bool} {Φ : Ph} (hN : ∀ x, startR N [x] = [some x, none]) : RisI fun ds => runF N risT frz Φ ds := by
  intro d ns S hl hs
  refine run_bl ?_
  rw [hN]
  refine ret_of ((call1 (eLc_mapM (S1 := S) (l := List.range (ns.length - 1)) (fun i => D.int (1 + (i : Nat))) (fun i => D.bl (decide (ns.getD i 0 < ns.getD (i + 1) 0))) ?_ (by rw [List.length_range]; omega) fun i hi => ⟨[some d, some (.int (1 + (i : Nat)))], rfl, rfl, ?_⟩)).trans ?_)
  · refine (vsrc_of (args2 rfl ((call1 rfl).trans (fLen_of hs)))).trans ?_
    rw [List.length_map]
    refine Eq.trans (sRng2_of (a := 1) (b := ((ns.length : Nat) : Int)) (S := S) (by omega)) ?_
    have e : (((ns.length : Nat) : Int) - 1).toNat = ns.length - 1 := by omega
    rw [e]
    rfl
  · have hi := List.mem_range.mp hi
    have e1 : (1 + ((i : Nat) : Int) - 1) = ((i : Nat) : Int) := by omega
    have e2 : (1 + ((i : Nat) : Int)) = ((i + 1 : Nat) : Int) := by omega
    have h1 : oIx d (.int (1 + ((i : Nat) : Int) - 1)) S = .ok (.int (ns.getD i 0)) S := oIx_of hs (by rw [e1]; exact atI_ints ns i (by omega))
    have h2 : oIx d (.int (1 + ((i : Nat) : Int))) S = .ok (.int (ns.getD (i + 1) 0)) S := oIx_of hs (by rw [e2]; exact atI_ints ns (i + 1) (by omega))
    exact bin_of ((bin_of rfl rfl).trans h1) ((bin_of rfl rfl).trans h2)
  · rw [fAll_map]; rfl
/-- at numbers given one behind the other -/
theorem risingB_of {ns : List Int} (h : ns.Pairwise (· < ·)) : risingB ns = true := by
  unfold risingB
  rw [List.all_eq_true]
  intro i hi
  have hi := List.mem_range.mp hi
  refine decide_eq_true ?_
  rw [getD_at (by omega : i < ns.length), getD_at (by omega : i + 1 < ns.length)]
  exact (List.pairwise_iff_getElem.mp h) i (i + 1) (by omega) (by omega) (by omega)
abbrev distT (jb : Nat) : Sm := sRet (eFn jb (aCons (eVar 0) (aCons (eC (D.int 0)) (aCons (eC (D.int 999)) aNil))))
def DistI (f : List D → M D) : Prop := ∀ (i : Int) (S : Store), f [.int i] S = .ok (.bl (decide (0 ≤ i) && decide (i ≤ 999))) S
theorem distP {N : List Str} {frz : Bool} {Φ : Ph} {jb : Nat} (hb : BetwI (Φ jb)) (hN : ∀ x, startR N [x] = [some x]) : DistI fun ds => runF N (distT jb) frz Φ ds := by
  intro i S
  refine run_bl ?_
  rw [hN]
  exact ret_of ((fn3 rfl rfl rfl).trans (hb i 0 999 S))
abbrev pairsT : Sm := sRet
      (eLc2 false (vSrc sRng (aCons (eVar 0) aNil)) (gNm 1) vYes
        (vSrc sRng (aCons (eBin oAdd (eVar 1) (eC (D.int 1))) (aCons (eVar 0) aNil))) [2] (gNm 2) vYes
        (eTup (aCons (eVar 1) (aCons (eVar 2) aNil)) 0)
        [1, 2])
def pairsL (n : Nat) : List (Nat × Nat) := (List.range n).flatMap fun i => (List.range (n - (i + 1))).map fun j => (i, i + 1 + j)
def pairD (p : Nat × Nat) : D := .tup [.int (p.1 : Nat), .int (p.2 : Nat)]
theorem pairs_mem {n : Nat} {p : Nat × Nat} (h : p ∈ pairsL n) : p.1 < p.2 ∧ p.2 < n := by
  unfold pairsL at h
  obtain ⟨i, hi, h⟩ := List.mem_flatMap.mp h
  obtain ⟨j, hj, rfl⟩ := List.mem_map.mp h
  have := List.mem_range.mp hi; have := List.mem_range.mp hj
  exact ⟨by show i < i + 1 + j; omega, by show i + 1 + j < n; omega⟩
def PairsOf (f : List D → M D) : Prop := ∀ (n : Nat) (S : Store), n ≤ 100 → f [.int (n : Nat)] S = .ok (.lst ((pairsL n).map pairD)) S
theorem sum_le {B : Nat} : ∀ {l : List Nat}, (∀ x ∈ l, x ≤ B) → l.sum ≤ l.length * B
  | [], _ => Nat.zero_le _
  | a :: r, h => by
    have := sum_le (B := B) (l := r) fun x hx => h x (List.mem_cons_of_mem _ hx)
    have := h a List.mem_cons_self
    rw [List.sum_cons, List.length_cons, Nat.succ_mul]; omega
theorem flat_len {α β : Type} {l : List α} {f : α → List β} {B : Nat} (h : ∀ x ∈ l, (f x).length ≤ B) : (l.flatMap f).length ≤ l.length * B := by
  rw [List.length_flatMap]
  have := sum_le (B := B) (l := l.map fun a => (f a).length) fun x hx => by
    obtain ⟨i, hi, rfl⟩ := List.mem_map.mp hx
    exact h i hi
  rw [List.length_map] at this; exact this
theorem pairs_len {n : Nat} (h : n ≤ 100) : (pairsL n).length ≤ 10000 := by
  have := flat_len (l := List.range n) (f := fun i => (List.range (n - (i + 1))).map fun j => (i, i + 1 + j)) (B := 100) fun i _ => by rw [List.length_map, List.length_range]; omega
  rw [List.length_range] at this
  unfold pairsL
  omega
theorem pairsP {N : List Str} {frz : Bool} {Φ : Ph} (hN : ∀ x, startR N [x] = [some x, none, none]) : PairsOf fun ds => runF N pairsT frz Φ ds := by
  intro n S hn
  have e : (pairsL n).map pairD = (List.range n).flatMap fun i => ((List.range (n - (i + 1))).filter fun _ => true).map fun j => pairD (i, i + 1 + j) := by
    unfold pairsL
    rw [List.map_flatMap]
    congr 1
    funext i
    rw [List.map_map, List.filter_eq_self.mpr fun _ _ => rfl]; rfl
  refine run_pl ?_ ?_
  · rw [hN, e]
    refine ret_of (eLc2_mapM (S1 := S) (l := List.range n) (fun i => D.int (i : Nat)) (fun i => List.range (n - (i + 1))) (fun i j => D.int (((i + 1 : Nat) : Int) + (j : Nat))) (fun _ _ => true) (fun i j => pairD (i, i + 1 + j)) ?_ ?_ fun i hi => ⟨[some (.int (n : Nat)), some (.int (i : Nat)), none], rfl, rfl, ?_, fun j hj => ⟨[some (.int (n : Nat)), some (.int (i : Nat)), some (.int (((i + 1 : Nat) : Int) + (j : Nat)))], rfl, rfl, fun _ => ?_⟩⟩)
    · refine (src_rng (n := n) rfl (by omega)).trans ?_
      rw [rngD_map]
    · rw [← e, List.length_map]; have := pairs_len hn; omega
    · have hi := List.mem_range.mp hi
      refine (src_rng2 (m := i + 1) (n := n) (bin_b rfl rfl (add_b rfl)) rfl (by omega) (by omega)).trans ?_
      rfl
    · refine (tup_of (args2 rfl rfl) (by simp)).trans ?_
      show R.ok (D.tup [.int (i : Nat), .int (((i + 1 : Nat) : Int) + (j : Nat))]) S = R.ok (D.tup [.int (i : Nat), .int (i + 1 + j : Nat)]) S
      have e : (((i + 1 : Nat) : Int) + (j : Nat)) = ((i + 1 + j : Nat) : Int) := by omega
      rw [e]
  · show D.bels _ _ = true
    refine D.bels_of_noRefs _ _ ?_
    generalize pairsL n = l
    induction l with
    | nil => rfl
    | cons a r ih => exact ih
abbrev placesT : Sm := sRet (eRg1 (kLst false) (eCall (op1 fLen) (aCons (eVar 0) aNil)))
def PlacesOf (f : List D → M D) : Prop := ∀ (d : D) (xs : List D) (S : Store), seqOf d S = some xs → xs.length ≤ 1000 → f [d] S = .ok (.lst (rngD 0 xs.length)) S
theorem placesP {N : List Str} {Φ : Ph} (hN : ∀ x, startR N [x] = [some x]) : PlacesOf fun ds => runF N placesT false Φ ds := by
  intro d xs S hs hl
  refine run_pl ?_ (by show D.bels _ _ = true; rw [rngD_rgI]; exact bels_ints _ _)
  rw [hN]
  refine ret_of ((rg1_of ((call1 rfl).trans (fLen_of hs))).trans ?_)
  rw [kLst_of (by omega)]
  have e : (((xs.length : Nat) : Int) - 0).toNat = xs.length := by omega
  rw [e]; rfl
abbrev lotT (ji jr : Nat) : Sm := sRet
      (eAnd (eFn ji (aCons (eVar 0) (aCons (eVar 1) aNil)))
        (eAnd (eFn jr (aCons (eVar 1) aNil)) (eBin oNe (eVar 1) (eTup aNil 0))))
/-- a lot of n places -/
def isLot (n : Nat) (is : List Nat) : Prop := (∀ i ∈ is, i < n) ∧ is.Pairwise (· < ·) ∧ is ≠ []
def natsD (is : List Nat) : List D := is.map fun i => D.int (i : Nat)
theorem natsD_ints (is : List Nat) : natsD is = (is.map fun i => ((i : Nat) : Int)).map D.int := by unfold natsD; rw [List.map_map]; rfl
theorem lot_len {n : Nat} {is : List Nat} (h : isLot n is) : is.length ≤ n := by
  have key : ∀ (l : List Nat) (a : Nat), l.Pairwise (· < ·) → (∀ i ∈ l, a ≤ i ∧ i < n) → l.length ≤ n - a := by
    intro l
    induction l with
    | nil => intro a _ _; exact Nat.zero_le _
    | cons x r ih =>
      intro a p q
      have p := List.pairwise_cons.mp p
      have := ih (x + 1) p.2 fun i hi => ⟨p.1 i hi, (q i (List.mem_cons_of_mem _ hi)).2⟩
      have := q x List.mem_cons_self
      rw [List.length_cons]; omega
  have := key is 0 h.2.1 fun i hi => ⟨Nat.zero_le _, h.1 i hi⟩
  omega
def LotI (f : List D → M D) : Prop := ∀ (n : Nat) (is : List Nat) (S : Store), is.length ≤ 1000 → isLot n is → f [.int (n : Nat), .tup (natsD is)] S = .ok (.bl true) S
theorem lotP {N : List Str} {frz : Bool} {Φ : Ph} {ji jr : Nat} (hi : IdxI (Φ ji)) (hr : RisI (Φ jr)) (hN : ∀ x y, startR N [x, y] = [some x, some y]) : LotI fun ds => runF N (lotT ji jr) frz Φ ds := by
  intro n is S hl h
  refine run_bl ?_
  rw [hN, natsD_ints]
  refine ret_b (and_b ((fn2 rfl rfl).trans (hi (n : Nat) _ S (by rw [List.length_map]; exact hl))) ?_) rfl
  have e : ((is.map fun i => ((i : Nat) : Int)).all fun i => decide (0 ≤ i) && decide (i ≤ ((n : Nat) : Int) - 1)) = true := by
    rw [List.all_map, List.all_eq_true]
    intro i hi
    have := h.1 i hi
    simp only [Function.comp, Bool.and_eq_true, decide_eq_true_eq]; omega
  rw [e]
  refine cond_t (and_b ((fn1 rfl).trans (hr _ _ S (by rw [List.length_map]; exact hl) rfl)) ?_)
  rw [risingB_of (by rw [List.pairwise_map]; exact h.2.1.imp fun h => by omega)]
  refine cond_t ((bin_of (y := .tup []) rfl rfl).trans ?_)
  cases is with
  | nil => exact absurd rfl h.2.2
  | cons a r =>
    have e : oNe (.tup ((((a :: r).map fun i => ((i : Nat) : Int))).map D.int)) (.tup []) S = .ok (.bl true) S := by
      unfold oNe
      show (if (D.shp 30 (.tup (((a :: r).map fun i => ((i : Nat) : Int)).map D.int)) && D.shp 30 (.tup [])) = true then _ else _) = _
      rw [if_pos (by show (D.shps 29 _ && true) = true; rw [shps_ints]; rfl)]
      rfl
    exact e
abbrev partT : Sm := sRet
      (eCall (op1 fTuple)
        (aCons
          (eLc false (fun Φ ρ => (eVar 1 Φ ρ).bind srcOf) (gNm 2) vYes
            (eCall (op1 fTuple)
              (aCons
                (eLc false (fun Φ ρ => (eVar 1 Φ ρ).bind srcOf) (gNm 3) vYes
                  (eBin oIx (eBin oIx (eVar 0) (eVar 2)) (eVar 3))
                  [3])
                aNil))
            [2])
          aNil))
/-- table[i][j] -/
theorem tix {Φ : Ph} {ρ : Ro} {S S1 S2 S3 : Store} {n : Nat} {M : Mx} {a x y : Ev} {i j : Nat} (sq : Sq n M) (h : a Φ ρ S = .ok (tbl M) S1) (h1 : x Φ ρ S1 = .ok (.int (i : Nat)) S2) (h2 : y Φ ρ S2 = .ok (.int (j : Nat)) S3) (hi : i < n) (hj : j < n) : eBin oIx (eBin oIx a x) y Φ ρ S = .ok (.int (getM M i j)) S3 := by
  have e : oIx (tbl M) (.int (i : Nat)) S2 = .ok (.tup ((M.getD i []).map D.int)) S2 := by
    refine oIx_of rfl ?_
    rw [atI_map, atI_nat M i (by rw [sq.1]; exact hi), getD_at (by rw [sq.1]; exact hi)]; rfl
  refine bin_b ((bin_of h h1).trans e) h2 ?_
  exact oIx_of rfl (atI_ints _ j (by rw [sq.row hi]; exact hj))
def PartOf (f : List D → M D) : Prop := ∀ (n : Nat) (M : Mx) (is : List Nat) (S : Store), Sq n M → is.length ≤ 1000 → (∀ i ∈ is, i < n) → f [tbl M, .tup (natsD is)] S = .ok (tbl (partM M is)) S
theorem partP {N : List Str} {frz : Bool} {Φ : Ph} (hN : ∀ x y, startR N [x, y] = [some x, some y, none, none]) : PartOf fun ds => runF N partT frz Φ ds := by
  intro n M is S sq hl hi
  refine run_pl ?_ (tbl_bel _ _)
  rw [hN]
  refine ret_of ((call1 (eLc_mapM (S1 := S) (l := is) (fun i => D.int (i : Nat)) (fun i => D.tup (is.map fun j => D.int (getM M i j))) (srcT rfl) (by omega) fun i h1 => ⟨[some (tbl M), some (.tup (natsD is)), some (.int (i : Nat)), none], rfl, rfl, ?_⟩)).trans ?_)
  · refine (call1 (eLc_mapM (S1 := S) (l := is) (fun i => D.int (i : Nat)) (fun j => D.int (getM M i j)) (srcT rfl) (by omega) fun j h2 => ⟨[some (tbl M), some (.tup (natsD is)), some (.int (i : Nat)), some (.int (j : Nat))], rfl, rfl, ?_⟩)).trans rfl
    exact tix sq rfl rfl rfl (hi i h1) (hi j h2)
  · rw [tbl_part]; rfl
abbrev tabT (jt jd jp : Nat) : Sm :=
    (sSeq
      (sIf
        (vOr (vNot (tvOf (vIsi "tuple" (eVar 0))))
          (vNot (vChain oLe oLe (eC (D.int 1)) (eCall (op1 fLen) (aCons (eVar 0) aNil)) (eC (D.int 8)))))
        (sRet (eC (D.bl false))) sNx)
      (sSeq (sAsg (eCall (op1 fLen) (aCons (eVar 0) aNil)) (gmN (gNm 1)))
        (sSeq
          (sIf
            (vNot
              (tvOf
                (eCall (op1 fAll)
                  (aCons
                    (eLc false (fun Φ ρ => (eVar 0 Φ ρ).bind srcOf) (gNm 2) vYes
                      (eAnd (eFn jt (aCons (eVar 2) (aCons (eVar 1) aNil)))
                        (eCall (op1 fAll)
                          (aCons
                            (eLc false (fun Φ ρ => (eVar 2 Φ ρ).bind srcOf) (gNm 3) vYes (eFn jd (aCons (eVar 3) aNil))
                              [3])
                            aNil)))
                      [2])
                    aNil))))
            (sRet (eC (D.bl false))) sNx)
          (sSeq
            (sIf
              (tvOf
                (eCall (op1 fAny)
                  (aCons
                    (eLc false (vSrc sRng (aCons (eVar 1) aNil)) (gNm 4) vYes
                      (eBin oNe (eBin oIx (eBin oIx (eVar 0) (eVar 4)) (eVar 4)) (eC (D.int 0)))
                      [4])
                    aNil)))
              (sRet (eC (D.bl false))) sNx)
            (sRet
              (eCall (op1 fAll)
                (aCons
                  (eLc false (fun Φ ρ => (eFn jp (aCons (eVar 1) aNil) Φ ρ).bind srcOf)
                    (gTu [5, 6])
                    vYes
                    (eBin oEq (eBin oIx (eBin oIx (eVar 0) (eVar 5)) (eVar 6))
                      (eBin oIx (eBin oIx (eVar 0) (eVar 6)) (eVar 5)))
                    [5, 6])
                  aNil)))))))
def TabI (f : List D → M D) : Prop := ∀ (n : Nat) (M : Mx) (S : Store), TbI n M → 1 ≤ n → n ≤ 8 → f [tbl M] S = .ok (.bl true) S
theorem getM_row {n : Nat} {M : Mx} (tb : TbI n M) {r : List Int} (hr : r ∈ M) : r.length = n ∧ ∀ x ∈ r, 0 ≤ x ∧ x ≤ 999 := by
  refine ⟨tb.sq.2 r hr, fun x hx => ?_⟩
  obtain ⟨i, hi, rfl⟩ := List.getElem_of_mem hr
  obtain ⟨j, hj, rfl⟩ := List.getElem_of_mem hx
  have hi' : i < n := by rw [← tb.sq.1]; exact hi
  have hj' : j < n := by rw [← tb.sq.2 _ hr]; exact hj
  have e : getM M i j = M[i][j] := by unfold getM; rw [getD_at hi, getD_at hj]
  rw [← e]
  exact ⟨tb.lo i j hi' hj', tb.hi i j hi' hj'⟩
theorem tabP {N : List Str} {frz : Bool} {Φ : Ph} {jt jd jp : Nat} (ht : TupOf (Φ jt)) (hd : DistI (Φ jd)) (hp : PairsOf (Φ jp)) (hN : ∀ x, startR N [x] = [some x, none, none, none, none, none, none]) : TabI fun ds => runF N (tabT jt jd jp) frz Φ ds := by
  intro n M S tb h1 h8
  have hl : fLen (tbl M) S = .ok (.int (n : Nat)) S := by
    refine (fLen_of (xs := M.map fun r => .tup (r.map D.int)) rfl).trans ?_
    rw [List.length_map, tb.sq.1]
  refine run_bl ?_
  rw [hN]
  let R0 : Ro := [some (tbl M), none, none, none, none, none, none]
  let R1 : Ro := [some (tbl M), some (.int (n : Nat)), none, none, none, none, none]
  have t1 : vOr (vNot (tvOf (vIsi "tuple" (eVar 0)))) (vNot (vChain oLe oLe (eC (D.int 1)) (eCall (op1 fLen) (aCons (eVar 0) aNil)) (eC (D.int 8)))) Φ R0 S = .ok false S := by
    refine vor_b (vnot_of (p := true) (tv_of rfl)) (cond_f (vnot_b (S1 := S) (p := true) (vchain_b (chainLe rfl ((call1 rfl).trans hl) rfl) ?_) rfl))
    rw [decide_eq_true (by omega : (1 : Int) ≤ (n : Nat)), decide_eq_true (by omega : ((n : Nat) : Int) ≤ 8)]; rfl
  have t2 : vNot (tvOf (eCall (op1 fAll) (aCons (eLc false (fun Φ ρ => (eVar 0 Φ ρ).bind srcOf) (gNm 2) vYes
                      (eAnd (eFn jt (aCons (eVar 2) (aCons (eVar 1) aNil)))
                        (eCall (op1 fAll)
                          (aCons
                            (eLc false (fun Φ ρ => (eVar 2 Φ ρ).bind srcOf) (gNm 3) vYes (eFn jd (aCons (eVar 3) aNil))
                              [3])
                            aNil)))
                      [2]) aNil))) Φ R1 S = .ok false S := by
    refine vnot_b (S1 := S) (p := true) (tv_of ((call1 (eLc_mapM (S1 := S) (l := M) (fun r => D.tup (r.map D.int)) (fun _ => D.bl true) (srcT rfl) (by rw [tb.sq.1]; omega) fun r hr => ⟨[some (tbl M), some (.int (n : Nat)), some (.tup (r.map D.int)), none, none, none, none], rfl, rfl, ?_⟩)).trans ((fAll_map (fun _ => true) M S).trans (by rw [List.all_eq_true.mpr fun _ _ => rfl])))) rfl
    obtain ⟨r1, r2⟩ := getM_row tb hr
    refine and_b ((fn2 rfl rfl).trans (ht _ _ S)) ?_
    rw [List.length_map, r1, beq_self_eq_true]
    refine cond_t ((call1 (eLc_mapM (S1 := S) (l := r) D.int (fun _ => D.bl true) (srcT rfl) (by omega) fun x hx => ⟨[some (tbl M), some (.int (n : Nat)), some (.tup (r.map D.int)), some (.int x), none, none, none], rfl, rfl, ?_⟩)).trans ((fAll_map (fun _ => true) r S).trans (by rw [List.all_eq_true.mpr fun _ _ => rfl])))
    refine (fn1 rfl).trans ((hd x S).trans ?_)
    rw [decide_eq_true (r2 x hx).1, decide_eq_true (r2 x hx).2]; rfl
  have t3 : tvOf (eCall (op1 fAny) (aCons (eLc false (vSrc sRng (aCons (eVar 1) aNil)) (gNm 4) vYes
                      (eBin oNe (eBin oIx (eBin oIx (eVar 0) (eVar 4)) (eVar 4)) (eC (D.int 0)))
                      [4]) aNil)) Φ R1 S = .ok false S := by
    refine tv_of ((call1 (eLc_mapM (S1 := S) (l := List.range n) (fun i => D.int (i : Nat)) (fun _ => D.bl false) ((src_rng (n := n) rfl (by omega)).trans (by rw [rngD_map])) (by rw [List.length_range]; omega) fun i hi => ⟨[some (tbl M), some (.int (n : Nat)), none, none, some (.int (i : Nat)), none, none], rfl, rfl, ?_⟩)).trans ((fAny_map (fun _ => false) _ S).trans (by rw [List.any_eq_false.mpr fun _ _ => Bool.false_ne_true])))
    have hi := List.mem_range.mp hi
    refine bin_b (tix tb.sq rfl rfl rfl hi hi) rfl (nei_b ?_)
    rw [tb.dg i hi]; rfl
  refine seq_b (sif_b t1 rfl) (seq_b (asg_b ((call1 rfl).trans hl) rfl rfl) (seq_b (sif_b t2 rfl) (seq_b (sif_b t3 rfl) (ret_of ?_))))
  refine (call1 (eLc_mapM (S1 := S) (l := pairsL n) pairD (fun _ => D.bl true) (srcL ((fn1 rfl).trans (hp n S (by omega)))) (by have := pairs_len (n := n) (by omega); omega) fun p hpm => ⟨[some (tbl M), some (.int (n : Nat)), none, none, none, some (.int (p.1 : Nat)), some (.int (p.2 : Nat))], rfl, rfl, ?_⟩)).trans ((fAll_map (fun _ => true) _ S).trans (by rw [List.all_eq_true.mpr fun _ _ => rfl]))
  obtain ⟨p1, p2⟩ := pairs_mem hpm
  refine bin_b (tix tb.sq rfl rfl rfl (by omega) p2) (tix tb.sq rfl rfl rfl p2 (by omega)) (eqi_b ?_)
  rw [tb.sy p.1 p.2 (by omega) p2, beq_self_eq_true]
/-! checks -/
abbrev chkT (j : Nat) : Sm := sIf (vNot (tvOf (eFn j (aCons (eVar 0) aNil)))) sBad sNx
def ChkTab (f : List D → M D) : Prop := ∀ (n : Nat) (M : Mx) (S : Store), TbI n M → 1 ≤ n → n ≤ 8 → f [tbl M] S = .ok .non S
theorem chkTabP {N : List Str} {frz : Bool} {Φ : Ph} {j : Nat} (h : TabI (Φ j)) (hN : ∀ x, startR N [x] = [some x]) : ChkTab fun ds => runF N (chkT j) frz Φ ds := by
  intro n M S tb h1 h8
  refine run_nx (ρ := [some (tbl M)]) ?_
  rw [hN]
  exact (sif_f (vnot_of (tv_of ((fn1 rfl).trans (h n M S tb h1 h8))))).trans rfl
abbrev chkT2 (j : Nat) : Sm := sIf (vNot (tvOf (eFn j (aCons (eVar 0) (aCons (eVar 1) aNil))))) sBad sNx
def ChkLot (f : List D → M D) : Prop := ∀ (n : Nat) (is : List Nat) (S : Store), is.length ≤ 1000 → isLot n is → f [.int (n : Nat), .tup (natsD is)] S = .ok .non S
theorem chkLotP {N : List Str} {frz : Bool} {Φ : Ph} {j : Nat} (h : LotI (Φ j)) (hN : ∀ x y, startR N [x, y] = [some x, some y]) : ChkLot fun ds => runF N (chkT2 j) frz Φ ds := by
  intro n is S hl hi
  refine run_nx (ρ := [some (.int (n : Nat)), some (.tup (natsD is))]) ?_
  rw [hN]
  exact (sif_f (vnot_of (tv_of ((fn2 rfl rfl).trans (h n is S hl hi))))).trans rfl
end G
end

section
set_option Elab.async false
set_option linter.all false
set_option maxRecDepth 100000
namespace G
open PySem PySem.Spec PyProof.Rows L2
/-! ### the same -/
mutual
theorem eqv_self : ∀ (n : Nat) (d : D), D.shp n d = true → D.eqv d d = true
  | n, .non, _ => rfl
  | n, .bl b, _ => by unfold D.eqv; exact beq_self_eq_true b
  | n, .int i, _ => by unfold D.eqv; exact beq_self_eq_true i
  | n, .str s, _ => by unfold D.eqv; exact beq_self_eq_true s
  | 0, .tup xs, h => by unfold D.shp at h; cases h
  | 0, .lst xs, h => by unfold D.shp at h; cases h
  | n + 1, .tup xs, h => by unfold D.shp at h; unfold D.eqv; exact eqvs_self n xs h
  | n + 1, .lst xs, h => by unfold D.shp at h; unfold D.eqv; exact eqvs_self n xs h
  | n, .rol xs, h => by unfold D.shp at h; cases n <;> cases h
  | n, .dct _ _, h => by unfold D.shp at h; cases n <;> cases h
  | n, .tpk xs, h => by unfold D.shp at h; cases n <;> cases h
  | n, .ref _, h => by unfold D.shp at h; cases n <;> cases h
theorem eqvs_self : ∀ (n : Nat) (ds : List D), D.shps n ds = true → D.eqvs ds ds = true
  | n, [], _ => by unfold D.eqvs; rfl
  | n, d :: r, h => by
    unfold D.shps at h
    rw [Bool.and_eq_true] at h
    unfold D.eqvs
    rw [eqv_self n d h.1, eqvs_self n r h.2]; rfl
end
theorem now_shp {n : Nat} {d : D} {S : Store} (h : D.shp n d = true) : d.now S = d := by
  cases d with
  | ref m => unfold D.shp at h; cases n <;> cases h
  | _ => rfl
theorem oEq_self {n : Nat} {d : D} {S : Store} (h : D.shp 30 d = true) : oEq d d S = .ok (.bl true) S ∧ oNe d d S = .ok (.bl false) S := by
  constructor
  · unfold oEq
    rw [now_shp h, if_pos (by rw [h]; rfl), eqv_self 30 d h]
  · unfold oNe
    rw [now_shp h, if_pos (by rw [h]; rfl), eqv_self 30 d h]; rfl
/-- values to be told apart -/
def Vd : Nat → D → Prop
  | 0, d => (∀ xs, d ≠ .tup xs) ∧ D.shp 30 d = true
  | n + 1, d => D.shp 30 d = true ∧ ∀ xs, d = .tup xs → xs.length ≤ 1000 ∧ ∀ x ∈ xs, Vd n x
theorem Vd.shp {n : Nat} {d : D} (h : Vd n d) : D.shp 30 d = true := by
  cases n with
  | zero => exact h.2
  | succ n => exact h.1
abbrev sameT (j : Nat) : Sm :=
    (sSeq
      (sIf (tvOf (vIsi "tuple" (eVar 0)))
        (sRet
          (eAnd (vIsi "tuple" (eVar 1))
            (eAnd (eBin oEq (eCall (op1 fLen) (aCons (eVar 0) aNil)) (eCall (op1 fLen) (aCons (eVar 1) aNil)))
              (eBin oEq
                (eLc false (vSrc sRng (aCons (eCall (op1 fLen) (aCons (eVar 0) aNil)) aNil)) (gNm 2)
                  (vNot (tvOf (eFn j (aCons (eBin oIx (eVar 0) (eVar 2)) (aCons (eBin oIx (eVar 1) (eVar 2)) aNil)))))
                  (eVar 2) [2])
                (eLst false aNil)))))
        sNx)
      (sSeq
        (sIf (vOr (tvOf (vIsi "bool" (eVar 0))) (tvOf (vIsi "bool" (eVar 1))))
          (sRet (eAnd (vIsi "bool" (eVar 0)) (eAnd (vIsi "bool" (eVar 1)) (eBin oEq (eVar 0) (eVar 1))))) sNx)
        (sRet
          (eAnd (eBin oEq (vIsi "int" (eVar 0)) (vIsi "int" (eVar 1)))
            (eAnd (eBin oEq (vIsi "str" (eVar 0)) (vIsi "str" (eVar 1))) (eBin oEq (eVar 0) (eVar 1)))))))
def SameAt (n : Nat) (f : List D → M D) : Prop := ∀ (d : D) (S : Store), Vd n d → f [d, d] S = .ok (.bl true) S
theorem sameP {N : List Str} {frz : Bool} {Φ : Ph} {j n : Nat} (h : ∀ m, n = m + 1 → SameAt m (Φ j)) (hN : ∀ x y, startR N [x, y] = [some x, some y, none]) : SameAt n fun ds => runF N (sameT j) frz Φ ds := by
  intro d S g
  refine run_bl ?_
  rw [hN]
  have tup : ∀ xs, d = .tup xs → sSeq
      (sIf (tvOf (vIsi "tuple" (eVar 0)))
        (sRet
          (eAnd (vIsi "tuple" (eVar 1))
            (eAnd (eBin oEq (eCall (op1 fLen) (aCons (eVar 0) aNil)) (eCall (op1 fLen) (aCons (eVar 1) aNil)))
              (eBin oEq
                (eLc false (vSrc sRng (aCons (eCall (op1 fLen) (aCons (eVar 0) aNil)) aNil)) (gNm 2)
                  (vNot (tvOf (eFn j (aCons (eBin oIx (eVar 0) (eVar 2)) (aCons (eBin oIx (eVar 1) (eVar 2)) aNil)))))
                  (eVar 2) [2])
                (eLst false aNil)))))
        sNx)
      (sSeq
        (sIf (vOr (tvOf (vIsi "bool" (eVar 0))) (tvOf (vIsi "bool" (eVar 1))))
          (sRet (eAnd (vIsi "bool" (eVar 0)) (eAnd (vIsi "bool" (eVar 1)) (eBin oEq (eVar 0) (eVar 1))))) sNx)
        (sRet
          (eAnd (eBin oEq (vIsi "int" (eVar 0)) (vIsi "int" (eVar 1)))
            (eAnd (eBin oEq (vIsi "str" (eVar 0)) (vIsi "str" (eVar 1))) (eBin oEq (eVar 0) (eVar 1)))))) Φ [some d, some d, none] S = .rt (.bl true) S := by
    rintro xs rfl
    obtain ⟨m, e, hl, hx⟩ : ∃ m, n = m + 1 ∧ xs.length ≤ 1000 ∧ ∀ x ∈ xs, Vd m x := by
      cases n with
      | zero => exact absurd rfl (g.1 xs)
      | succ m => exact ⟨m, rfl, (g.2 xs rfl).1, (g.2 xs rfl).2⟩
    refine seq_rt ?_
    refine sif_b (tv_of (p := true) rfl) (cond_t (ret_of ?_))
    refine (and_t rfl).trans ((and_t (S1 := S) ?_).trans ?_)
    · refine bin_b ((call1 rfl).trans (fLen_of rfl)) ((call1 rfl).trans (fLen_of rfl)) (eqi_b ?_)
      rw [beq_self_eq_true]
    · have q : eLc false (vSrc sRng (aCons (eCall (op1 fLen) (aCons (eVar 0) aNil)) aNil)) (gNm 2)
                  (vNot (tvOf (eFn j (aCons (eBin oIx (eVar 0) (eVar 2)) (aCons (eBin oIx (eVar 1) (eVar 2)) aNil)))))
                  (eVar 2) [2] Φ [some (.tup xs), some (.tup xs), none] S = .ok (.lst []) S := by
        refine (eLc_filtM (S1 := S) (l := List.range xs.length) (fun i => D.int (i : Nat)) (fun _ => false) (fun i => D.int (i : Nat)) ((src_rng (n := xs.length) ((call1 rfl).trans (fLen_of rfl)) (by omega)).trans (by rw [rngD_map])) (by rw [List.length_range]; omega) fun i hi => ⟨[some (.tup xs), some (.tup xs), some (.int (i : Nat))], rfl, ?_, fun z => by cases z⟩).trans ?_
        · have hi := List.mem_range.mp hi
          have ix : oIx (.tup xs) (.int (i : Nat)) S = .ok xs[i] S := oIx_of rfl (atI_nat xs i hi)
          exact vnot_of (p := true) (tv_of ((fn2 (bin_b rfl rfl ix) (bin_b rfl rfl ix)).trans (h m e xs[i] S (hx _ (List.getElem_mem hi)))))
        · rw [List.filter_eq_nil_iff.mpr fun _ _ => Bool.false_ne_true]; rfl
      exact bin_b q rfl rfl
  cases hd : d with
  | tup xs => rw [← hd]; exact tup xs hd
  | bl b =>
    refine seq_b (sif_b (tv_of (p := false) rfl) rfl) (seq_rt (sif_b (vor_b (tv_of (p := true) rfl) rfl) (cond_t (ret_of ((and_t rfl).trans ((and_t rfl).trans (bin_b rfl rfl (eqb_b (by rw [beq_self_eq_true]))))))))) 
  | tpk xs => have := g.shp; rw [hd] at this; cases this
  | rol xs => have := g.shp; rw [hd] at this; cases this
  | dct _ xs => have := g.shp; rw [hd] at this; cases this
  | ref xs => have := g.shp; rw [hd] at this; cases this
  | _ =>
    have s := g.shp
    rw [hd] at s
    exact seq_b (sif_b (tv_of (p := false) rfl) rfl) (seq_b (sif_b (vor_b (tv_of (p := false) rfl) (cond_f (tv_of (p := false) rfl))) rfl) (ret_of ((and_t rfl).trans ((and_t rfl).trans (bin_b rfl rfl (oEq_self (n := 30) s).1)))))
/-! ### four places -/
def sums4 (M : Mx) (a b c d : Nat) : List Int := sortI [getM M a b + getM M c d, getM M a c + getM M b d, getM M a d + getM M b c]
def bad4 (M : Mx) (a b c d : Nat) : Bool := !((sums4 M a b c d).getD 1 0 == (sums4 M a b c d).getD 2 0)
theorem sortI_eq {l m : List Int} (p : l.Perm m) : sortI l = sortI m := sorted_unique ((sortI_perm l).trans (p.trans (sortI_perm m).symm)) (sortI_sorted l) (sortI_sorted m)
section
variable {n : Nat} {M : Mx} (tb : TbI n M) {a b c d : Nat} (ha : a < n) (hb : b < n) (hc : c < n) (hd : d < n)
include tb ha hb hc hd
theorem bad4_1 : bad4 M b a c d = bad4 M a b c d := by
  have : sums4 M b a c d = sums4 M a b c d := by
    unfold sums4
    rw [tb.sy b a hb ha]
    refine sortI_eq ?_
    refine List.Perm.cons _ ?_
    rw [Int.add_comm (getM M b c), Int.add_comm (getM M b d)]
    exact List.Perm.swap _ _ _
  unfold bad4; rw [this]
theorem bad4_2 : bad4 M a c b d = bad4 M a b c d := by
  have : sums4 M a c b d = sums4 M a b c d := by
    unfold sums4
    rw [tb.sy c b hc hb]
    exact sortI_eq (List.Perm.swap _ _ _)
  unfold bad4; rw [this]
theorem bad4_3 : bad4 M a b d c = bad4 M a b c d := by
  have : sums4 M a b d c = sums4 M a b c d := by
    unfold sums4
    rw [tb.sy d c hd hc]
    exact sortI_eq (List.Perm.cons _ (List.Perm.swap _ _ _))
  unfold bad4; rw [this]
end
def four (a b c d : Nat) : D := .tup (natsD [a, b, c, d])
/-- the first four of all, as the law asks -/
def firstL (n : Nat) (M : Mx) : Option D := (List.range n).findSome? fun a => (List.range n).findSome? fun b => (List.range n).findSome? fun c => (List.range n).findSome? fun d => if bad4 M a b c d then some (four a b c d) else none
theorem fs_none {α : Type} {f : Nat → Option α} {n : Nat} (h : (List.range n).findSome? f = none) {i : Nat} (hi : i < n) : f i = none := by
  rcases some_range (f := f) (n := n) with ⟨h1, _⟩ | ⟨_, _, _, _, _, h2⟩
  · exact h1 i hi
  · rw [h] at h2; cases h2
theorem fs_some {α : Type} {f : Nat → Option α} {n : Nat} {d : α} (h : (List.range n).findSome? f = some d) : ∃ i, i < n ∧ f i = some d ∧ ∀ j, j < i → f j = none := by
  rcases some_range (f := f) (n := n) with ⟨_, h2⟩ | ⟨i, e, h1, h2, h3, h4⟩
  · rw [h] at h2; cases h2
  · rw [h] at h4; cases h4; exact ⟨i, h1, h2, h3⟩
def key4 (a b c d : Nat) : Nat := ((a * 8 + b) * 8 + c) * 8 + d
theorem ite_none {p : Bool} {d : D} (h : (if p = true then some d else none) = none) : p = false := by cases p with
  | true => cases h
  | false => rfl
theorem firstL_none {n : Nat} {M : Mx} (h : firstL n M = none) {a b c d : Nat} (ha : a < n) (hb : b < n) (hc : c < n) (hd : d < n) : bad4 M a b c d = false :=
  ite_none (fs_none (fs_none (fs_none (fs_none h ha) hb) hc) hd)
theorem firstL_some {n : Nat} {M : Mx} {x : D} (n8 : n ≤ 8) (h : firstL n M = some x) : ∃ a b c d, a < n ∧ b < n ∧ c < n ∧ d < n ∧ x = four a b c d ∧ bad4 M a b c d = true ∧ ∀ p q r s, p < n → q < n → r < n → s < n → key4 p q r s < key4 a b c d → bad4 M p q r s = false := by
  obtain ⟨a, ha, h, la⟩ := fs_some h
  obtain ⟨b, hb, h, lb⟩ := fs_some h
  obtain ⟨c, hc, h, lc⟩ := fs_some h
  obtain ⟨d, hd, h, ld⟩ := fs_some h
  have hb4 : bad4 M a b c d = true ∧ x = four a b c d := by
    cases hq : bad4 M a b c d with
    | true => rw [hq] at h; cases h; exact ⟨rfl, rfl⟩
    | false => rw [hq] at h; cases h
  refine ⟨a, b, c, d, ha, hb, hc, hd, hb4.2, hb4.1, fun p q r s hp hq hr hs k => ?_⟩
  unfold key4 at k
  by_cases ea : p = a
  · subst ea
    by_cases eb : q = b
    · subst eb
      by_cases ec : r = c
      · subst ec
        exact ite_none (ld s (by omega))
      · exact ite_none (fs_none (lc r (by omega)) hs)
    · exact ite_none (fs_none (fs_none (lb q (by omega)) hr) hs)
  · exact ite_none (fs_none (fs_none (fs_none (la p (by omega)) hq) hr) hs)
/-- ascending fours, as the program makes them -/
def ascF (n : Nat) : Nat → List (List Nat)
  | 0 => [[]]
  | k + 1 => (ascF n k).flatMap fun row => ((List.range n).filter fun p => row.isEmpty || decide (row.getLastD 0 ≤ p)).map fun p => row ++ [p]
theorem asc_len (n : Nat) (h : n ≤ 8) : ∀ k, (ascF n k).length ≤ 8 ^ k
  | 0 => Nat.le_refl _
  | k + 1 => by
    have := flat_len (l := ascF n k) (f := fun row => ((List.range n).filter fun p => row.isEmpty || decide (row.getLastD 0 ≤ p)).map fun p => row ++ [p]) (B := 8) fun row _ => by
      rw [List.length_map]
      have := List.length_filter_le (fun p => row.isEmpty || decide (row.getLastD 0 ≤ p)) (List.range n)
      rw [List.length_range] at this; omega
    have ih := asc_len n h k
    have e : (ascF n (k + 1)).length ≤ (ascF n k).length * 8 := this
    rw [Nat.pow_succ]
    exact Nat.le_trans e (Nat.mul_le_mul_right 8 ih)
theorem asc_mem {n k : Nat} {r : List Nat} : r ∈ ascF n (k + 1) ↔ ∃ row ∈ ascF n k, ∃ p, p < n ∧ (row.isEmpty || decide (row.getLastD 0 ≤ p)) = true ∧ row ++ [p] = r := by
  show r ∈ (ascF n k).flatMap _ ↔ _
  rw [List.mem_flatMap]
  constructor
  · rintro ⟨row, h1, h2⟩
    obtain ⟨p, h3, rfl⟩ := List.mem_map.mp h2
    obtain ⟨h4, h5⟩ := List.mem_filter.mp h3
    exact ⟨row, h1, p, List.mem_range.mp h4, h5, rfl⟩
  · rintro ⟨row, h1, p, h2, h3, rfl⟩
    exact ⟨row, h1, List.mem_map.mpr ⟨p, List.mem_filter.mpr ⟨List.mem_range.mpr h2, h3⟩, rfl⟩⟩
theorem asc4 {n : Nat} {r : List Nat} : r ∈ ascF n 4 ↔ ∃ a b c d, r = [a, b, c, d] ∧ a ≤ b ∧ b ≤ c ∧ c ≤ d ∧ d < n := by
  constructor
  · intro h
    obtain ⟨r3, g3, d, hd, q3, rfl⟩ := asc_mem.mp h
    obtain ⟨r2, g2, c, hc, q2, rfl⟩ := asc_mem.mp g3
    obtain ⟨r1, g1, b, hb, q1, rfl⟩ := asc_mem.mp g2
    obtain ⟨r0, g0, a, ha, q0, rfl⟩ := asc_mem.mp g1
    have e0 : r0 = [] := List.mem_singleton.mp g0
    subst e0
    simp at q1 q2 q3
    exact ⟨a, b, c, d, rfl, q1, q2, q3, hd⟩
  · rintro ⟨a, b, c, d, rfl, h1, h2, h3, h4⟩
    refine asc_mem.mpr ⟨[a, b, c], asc_mem.mpr ⟨[a, b], asc_mem.mpr ⟨[a], asc_mem.mpr ⟨[], List.mem_singleton.mpr rfl, a, by omega, rfl, rfl⟩, b, by omega, ?_, rfl⟩, c, by omega, ?_, rfl⟩, d, h4, ?_, rfl⟩
    · simpa using h1
    · simpa using h2
    · simpa using h3
def keyL (r : List Nat) : Nat := r.foldl (fun x y => x * 8 + y) 0
theorem asc_up : ∀ n, n ≤ 8 → (ascF n 4).Pairwise fun r s => keyL r < keyL s := by decide +kernel
theorem find_key {α : Type} {p : α → Bool} {key : α → Nat} {x : α} : ∀ {l : List α}, l.Pairwise (fun a b => key a < key b) → x ∈ l → p x = true → (∀ y ∈ l, key y < key x → p y = false) → l.find? p = some x
  | [], _, h, _, _ => by cases h
  | a :: r, hp, hm, hx, hl => by
    have hp := List.pairwise_cons.mp hp
    rcases List.mem_cons.mp hm with rfl | hm
    · rw [List.find?_cons_of_pos hx]
    · rw [List.find?_cons_of_neg (by rw [hl a List.mem_cons_self (hp.1 x hm)]; decide)]
      exact find_key hp.2 hm hx fun y hy => hl y (List.mem_cons_of_mem _ hy)
def badL (M : Mx) (r : List Nat) : Bool := bad4 M (r.getD 0 0) (r.getD 1 0) (r.getD 2 0) (r.getD 3 0)
/-- the first of the ascending fours -/
def firstP (n : Nat) (M : Mx) : Option D := (ascF n 4).findSome? fun r => if badL M r then some (.tup (natsD r)) else none
theorem findSome_find {α β : Type} (p : α → Bool) (f : α → β) : ∀ l : List α, (l.findSome? fun x => if p x then some (f x) else none) = (l.find? p).map f
  | [] => rfl
  | a :: r => by
    rw [List.findSome?_cons]
    cases h : p a with
    | true => rw [List.find?_cons_of_pos h]; rfl
    | false => rw [List.find?_cons_of_neg (by rw [h]; decide)]; exact findSome_find p f r
theorem first_eq {n : Nat} {M : Mx} (tb : TbI n M) (n8 : n ≤ 8) : firstP n M = firstL n M := by
  unfold firstP
  rw [findSome_find]
  cases h : firstL n M with
  | none =>
    have : (ascF n 4).find? (badL M) = none := List.find?_eq_none.mpr fun r hr => by
      obtain ⟨a, b, c, d, rfl, h1, h2, h3, h4⟩ := asc4.mp hr
      show ¬ bad4 M a b c d = true
      rw [firstL_none h (by omega) (by omega) (by omega) h4]; decide
    rw [this]; rfl
  | some x =>
    obtain ⟨a, b, c, d, ha, hb, hc, hd, rfl, hbad, hlow⟩ := firstL_some n8 h
    have h1 : a ≤ b := by
      refine Nat.le_of_not_lt fun z => ?_
      have q := hlow b a c d hb ha hc hd (by unfold key4; omega)
      rw [bad4_1 tb ha hb hc hd, hbad] at q; cases q
    have h2 : b ≤ c := by
      refine Nat.le_of_not_lt fun z => ?_
      have q := hlow a c b d ha hc hb hd (by unfold key4; omega)
      rw [bad4_2 tb ha hb hc hd, hbad] at q; cases q
    have h3 : c ≤ d := by
      refine Nat.le_of_not_lt fun z => ?_
      have q := hlow a b d c ha hb hd hc (by unfold key4; omega)
      rw [bad4_3 tb ha hb hc hd, hbad] at q; cases q
    have : (ascF n 4).find? (badL M) = some [a, b, c, d] := find_key (key := keyL) (asc_up n n8) (asc4.mpr ⟨a, b, c, d, rfl, h1, h2, h3, hd⟩) hbad fun r hr hk => by
      obtain ⟨p, q, s, t, rfl, k1, k2, k3, k4⟩ := asc4.mp hr
      refine hlow p q s t (by omega) (by omega) (by omega) k4 ?_
      have e : ∀ a b c d : Nat, keyL [a, b, c, d] = key4 a b c d := fun a b c d => by
        show (((0 * 8 + a) * 8 + b) * 8 + c) * 8 + d = _
        rw [Nat.zero_mul, Nat.zero_add]; rfl
      rw [e, e] at hk; exact hk
    rw [this]; rfl
/-- of a tree's TABLE none -/
theorem sorted3 {x y z : Int} (h1 : x ≤ y ∨ x ≤ z) (h2 : y ≤ x ∨ y ≤ z) (h3 : z ≤ x ∨ z ≤ y) : (sortI [x, y, z]).getD 1 0 = (sortI [x, y, z]).getD 2 0 := by
  have e : ∀ p q : Int, insI x [p, q] = if x ≤ p then [x, p, q] else p :: (if x ≤ q then [x, q] else [q, x]) := fun _ _ => rfl
  have e2 : insI y [z] = if y ≤ z then [y, z] else [z, y] := rfl
  show (insI x (insI y [z])).getD 1 0 = (insI x (insI y [z])).getD 2 0
  rw [e2]
  by_cases c1 : y ≤ z
  · rw [if_pos c1, e]
    by_cases c2 : x ≤ y
    · rw [if_pos c2]; show y = z; omega
    · rw [if_neg c2]
      by_cases c3 : x ≤ z
      · rw [if_pos c3]; show x = z; omega
      · rw [if_neg c3]; show z = x; omega
  · rw [if_neg c1, e]
    by_cases c2 : x ≤ z
    · rw [if_pos c2]; show z = y; omega
    · rw [if_neg c2]
      by_cases c3 : x ≤ y
      · rw [if_pos c3]; show x = y; omega
      · rw [if_neg c3]; show y = x; omega
theorem tree_first {n : Nat} {M : Mx} (tb : TbI n M) (fp : FP n (getM M)) : firstL n M = none := by
  cases h : firstL n M with
  | none => rfl
  | some x =>
    exfalso
    obtain ⟨a, ha, h, _⟩ := fs_some h
    obtain ⟨b, hb, h, _⟩ := fs_some h
    obtain ⟨c, hc, h, _⟩ := fs_some h
    obtain ⟨d, hd, h, _⟩ := fs_some h
    have : bad4 M a b c d = false := by
      unfold bad4 sums4
      have q1 := fp a b c d ha hb hc hd
      have q2 := fp a c b d ha hc hb hd
      have q3 := fp a d b c ha hd hb hc
      rw [tb.sy c b hc hb] at q2
      rw [tb.sy d c hd hc, tb.sy d b hd hb] at q3
      rw [sorted3 q1 q2 q3, beq_self_eq_true]; rfl
    rw [this] at h; cases h
end G
end

section
set_option Elab.async false
set_option linter.all false
set_option maxRecDepth 100000
namespace G
open PySem PySem.Spec PyProof.Rows L2
/-! ### trees, as the program and the law tell them -/
theorem sorted_intsL {ns : List Int} {S : Store} : fSorted false (.lst (ns.map D.int)) S = .ok (.lst ((sortI ns).map D.int)) S := by
  unfold fSorted
  simp only [show seqOf (.lst (ns.map D.int)) S = some (ns.map D.int) from rfl, intsOf_map]; rfl
theorem sort3 (x y z : Int) : ∃ u v w, sortI [x, y, z] = [u, v, w] := by
  have p := (sortI_perm [x, y, z]).length_eq
  match sortI [x, y, z], p with
  | [u, v, w], _ => exact ⟨u, v, w, rfl⟩
abbrev sumsT : Sm :=
    (sSeq
      (sAsg (eVar 1)
        (gmTup (gsCons (gmN (gNm 2)) (gsCons (gmN (gNm 3)) (gsCons (gmN (gNm 4)) (gsCons (gmN (gNm 5)) gsNil))))))
      (sSeq
        (sAsg
          (eBin oAdd (eBin oIx (eBin oIx (eVar 0) (eVar 2)) (eVar 3)) (eBin oIx (eBin oIx (eVar 0) (eVar 4)) (eVar 5)))
          (gmN (gNm 6)))
        (sRet
          (eCall (op1 (fSorted false))
            (aCons
              (eLst false
                (aCons (eVar 6)
                  (aCons
                    (eBin oAdd (eBin oIx (eBin oIx (eVar 0) (eVar 2)) (eVar 4))
                      (eBin oIx (eBin oIx (eVar 0) (eVar 3)) (eVar 5)))
                    (aCons
                      (eBin oAdd (eBin oIx (eBin oIx (eVar 0) (eVar 2)) (eVar 5))
                        (eBin oIx (eBin oIx (eVar 0) (eVar 3)) (eVar 4)))
                      aNil))))
              aNil)))))
def SumsOf (f : List D → M D) : Prop := ∀ (n : Nat) (M : Mx) (a b c d : Nat) (S : Store), Sq n M → a < n → b < n → c < n → d < n → f [tbl M, four a b c d] S = .ok (.lst ((sums4 M a b c d).map D.int)) S
theorem sumsP {N : List Str} {frz : Bool} {Φ : Ph} (hN : ∀ x y, startR N [x, y] = [some x, some y, none, none, none, none, none]) : SumsOf fun ds => runF N sumsT frz Φ ds := by
  intro n M a b c d S sq ha hb hc hd
  refine run_pl ?_ (by show D.bels _ _ = true; exact bels_ints _ _)
  rw [hN]
  refine seq_b (asgG_b (d := four a b c d) (S2 := S) (ρ1 := [some (tbl M), some (four a b c d), some (.int (a : Nat)), some (.int (b : Nat)), some (.int (c : Nat)), some (.int (d : Nat)), none]) rfl rfl rfl) ?_
  refine seq_b (asg_b (bin_b (tix sq rfl rfl rfl ha hb) (tix sq rfl rfl rfl hc hd) (add_b rfl)) rfl rfl) (ret_of ?_)
  refine (call1 (lst_of (args3 rfl (bin_b (tix sq rfl rfl rfl ha hc) (tix sq rfl rfl rfl hb hd) (add_b rfl)) (bin_b (tix sq rfl rfl rfl ha hd) (tix sq rfl rfl rfl hb hc) (add_b rfl))) (by simp))).trans ?_
  exact sorted_intsL (ns := [getM M a b + getM M c d, getM M a c + getM M b d, getM M a d + getM M b c])
abbrev noTreeT (j : Nat) : Sm :=
    (sSeq (sAsg (eFn j (aCons (eVar 0) (aCons (eVar 1) aNil))) (gmN (gNm 2)))
      (sRet (eBin oNe (eBin oIx (eVar 2) (eC (D.int 1))) (eBin oIx (eVar 2) (eC (D.int 2))))))
def NoTreeOf (f : List D → M D) : Prop := ∀ (n : Nat) (M : Mx) (a b c d : Nat) (S : Store), Sq n M → a < n → b < n → c < n → d < n → f [tbl M, four a b c d] S = .ok (.bl (bad4 M a b c d)) S
theorem noTreeP {N : List Str} {frz : Bool} {Φ : Ph} {j : Nat} (h : SumsOf (Φ j)) (hN : ∀ x y, startR N [x, y] = [some x, some y, none]) : NoTreeOf fun ds => runF N (noTreeT j) frz Φ ds := by
  intro n M a b c d S sq ha hb hc hd
  refine run_bl ?_
  rw [hN]
  refine seq_b (asg_b ((fn2 rfl rfl).trans (h n M a b c d S sq ha hb hc hd)) rfl rfl) (ret_of ?_)
  unfold bad4
  obtain ⟨u, v, w, e⟩ := sort3 (getM M a b + getM M c d) (getM M a c + getM M b d) (getM M a d + getM M b c)
  have e : sums4 M a b c d = [u, v, w] := e
  rw [e]
  exact bin_b (x := .int v) (y := .int w) rfl rfl (nei_b rfl)
abbrev allFoursT (j : Nat) : Sm :=
    (sSeq (sAsg (eLst false (aCons (eTup aNil 0) aNil)) (gmN (gNm 1)))
      (sSeq
        (sFor (vSrc sRng (aCons (eC (D.int 4)) aNil)) (gmN (gNm 2))
          (sAsg
            (eLc2 false (fun Φ ρ => (eVar 1 Φ ρ).bind srcOf) (gNm 3) vYes
              (fun Φ ρ => (eFn j (aCons (eVar 0) aNil) Φ ρ).bind srcOf) [4] (gNm 4)
              (vOr (tCmp oEq (eVar 3) (eTup aNil 0)) (tCmp oGe (eVar 4) (eBin oIx (eVar 3) (eUn uNeg (eC (D.int 1))))))
              (eTup (aStar (eVar 3) (aCons (eVar 4) aNil)) 0)
              [3, 4])
            (gmN (gNm 1))))
        (sRet (eVar 1))))
def AllFours (f : List D → M D) : Prop := ∀ (n : Nat) (M : Mx) (S : Store), Sq n M → n ≤ 8 → f [tbl M] S = .ok (.lst ((ascF n 4).map fun r => D.tup (natsD r))) S
theorem eq_nil {xs : List D} {S : Store} (h : D.shps 29 xs = true) : oEq (.tup xs) (.tup []) S = .ok (.bl xs.isEmpty) S := by
  unfold oEq
  show (if (D.shps 29 xs && true) = true then _ else _) = _
  rw [if_pos (by rw [h]; rfl)]
  cases xs <;> rfl
theorem bels_nats (m : Nat) (r : List Nat) : D.bels m (natsD r) = true := by rw [natsD_ints]; exact bels_ints _ _
theorem shps_nats (m : Nat) (r : List Nat) : D.shps m (natsD r) = true := by rw [natsD_ints]; exact shps_ints _ _
theorem allFoursP {N : List Str} {Φ : Ph} {j : Nat} (h : PlacesOf (Φ j)) (hN : ∀ x, startR N [x] = [some x, none, none, none, none]) : AllFours fun ds => runF N (allFoursT j) false Φ ds := by
  intro n M S sq n8
  obtain ⟨ρ', S', hf, rfl, x2, rfl⟩ := sFor_rng (Φ := Φ) (lo := 0) (n := 4) (gm := gmN (gNm 2)) (sv := vSrc sRng (aCons (eC (D.int 4)) aNil)) (ρ := [some (tbl M), some (.lst [.tup []]), none, none, none]) (S := S)
    (b := sAsg
            (eLc2 false (fun Φ ρ => (eVar 1 Φ ρ).bind srcOf) (gNm 3) vYes
              (fun Φ ρ => (eFn j (aCons (eVar 0) aNil) Φ ρ).bind srcOf) [4] (gNm 4)
              (vOr (tCmp oEq (eVar 3) (eTup aNil 0)) (tCmp oGe (eVar 4) (eBin oIx (eVar 3) (eUn uNeg (eC (D.int 1))))))
              (eTup (aStar (eVar 3) (aCons (eVar 4) aNil)) 0)
              [3, 4])
            (gmN (gNm 1)))
    (src_rng (n := 4) rfl (by decide)) (fun i ρ S' => S' = S ∧ ∃ x2 : Option D, ρ = [some (tbl M), some (.lst ((ascF n i).map fun r => D.tup (natsD r))), x2, none, none]) ⟨rfl, none, rfl⟩ (by
      rintro i ρ S' hi ⟨rfl, x2, rfl⟩
      refine ⟨_, S', _, S', rfl, .inl (asg_of (d := .lst ((ascF n (i + 1)).map fun r => D.tup (natsD r))) ?_), rfl, some (.int (0 + (i : Nat))), rfl⟩
      have e : (ascF n (i + 1)).map (fun r => D.tup (natsD r)) = (ascF n i).flatMap fun row => ((List.range n).filter fun p => row.isEmpty || decide (row.getLastD 0 ≤ p)).map fun p => D.tup (natsD (row ++ [p])) := by
        show ((ascF n i).flatMap _).map _ = _
        rw [List.map_flatMap]
        congr 1
        funext row
        rw [List.map_map]; rfl
      rw [e]
      refine eLc2_mapM (S1 := S') (l := ascF n i) (fun r => D.tup (natsD r)) (fun _ => List.range n) (fun _ p => D.int (p : Nat)) (fun row p => row.isEmpty || decide (row.getLastD 0 ≤ p)) (fun row p => D.tup (natsD (row ++ [p]))) (srcL rfl) ?_ fun row hr => ⟨[some (tbl M), some (.lst ((ascF n i).map fun r => D.tup (natsD r))), some (.int (0 + (i : Nat))), some (.tup (natsD row)), none], rfl, rfl, ?_, fun p hp => ⟨[some (tbl M), some (.lst ((ascF n i).map fun r => D.tup (natsD r))), some (.int (0 + (i : Nat))), some (.tup (natsD row)), some (.int (p : Nat))], rfl, ?_, fun _ => ?_⟩⟩
      · rw [← e, List.length_map]
        have := asc_len n n8 (i + 1)
        have h5 : 8 ^ (i + 1) ≤ 8 ^ 4 := Nat.pow_le_pow_right (by decide) (by omega)
        have : (8 : Nat) ^ 4 = 4096 := by decide
        omega
      · refine (srcL ((fn1 rfl).trans (h _ (M.map fun r => .tup (r.map D.int)) S' rfl (by rw [List.length_map, sq.1]; omega)))).trans ?_
        rw [List.length_map, sq.1, rngD_map]
      · refine vor_b (cmp_of (S3 := S') rfl rfl (eq_nil (shps_nats _ _))) ?_
        have e : (natsD row).isEmpty = row.isEmpty := by cases row <;> rfl
        rw [e]
        cases hq : row.isEmpty with
        | true => rfl
        | false =>
          have ne : row ≠ [] := by intro z; rw [z] at hq; cases hq
          refine cond_f (cmp_of (p := decide (row.getLastD 0 ≤ p)) (S3 := S') rfl (bin_b (x := .tup (natsD row)) (y := .int (-1)) rfl rfl (oIx_of rfl (atI_last (natsD row) (by intro z; exact ne (List.map_eq_nil_iff.mp z))))) ?_)
          have e : (natsD row).getLast (by intro z; exact ne (List.map_eq_nil_iff.mp z)) = .int ((row.getLastD 0 : Nat) : Int) := by
            unfold natsD
            rw [List.getLast_map]
            congr 2
            rw [List.getLastD_eq_getLast?, List.getLast?_eq_some_getLast ne]; rfl
          rw [e]
          refine ge_b ?_
          congr 2
          rw [decide_eq_decide]; omega
      · refine (tup_of (S1 := S') (ds := natsD row ++ [.int (p : Nat)]) ?_ ?_).trans ?_
        · show G.M.bind (eVar 3 Φ _) _ S' = _
          rw [bind_of (show eVar 3 Φ [some (tbl M), some (.lst ((ascF n i).map fun r => D.tup (natsD r))), some (.int (0 + (i : Nat))), some (.tup (natsD row)), some (.int (p : Nat))] S' = .ok (.tup (natsD row)) S' from rfl)]
          rfl
        · have : row.length ≤ 100 := by
            have : ∀ k r, r ∈ ascF n k → r.length = k := by
              intro k
              induction k with
              | zero => intro r hr; rw [List.mem_singleton.mp hr]; rfl
              | succ k ih => intro r hr; obtain ⟨row, h1, p, _, _, rfl⟩ := asc_mem.mp hr; rw [List.length_append, ih row h1]; rfl
            rw [this i row hr]; omega
          rw [List.length_append]; unfold natsD; rw [List.length_map]; simp; omega
        · unfold natsD; rw [List.map_append]; rfl)
  refine run_pl ?_ ?_
  · rw [hN]
    refine seq_b (asg_b (d := .lst [.tup []]) rfl rfl rfl) (seq_b hf (ret_of rfl))
  · show D.bels _ _ = true
    generalize ascF n 4 = l
    induction l with
    | nil => rfl
    | cons a r ih =>
      show (D.bels _ (natsD a) && D.bels _ _) = true
      rw [bels_nats]; exact ih
abbrev fourT (ja jn : Nat) : Sm :=
    (sSeq
      (sFor (fun Φ ρ => (eFn ja (aCons (eVar 0) aNil) Φ ρ).bind srcOf) (gmN (gNm 1))
        (sIf (tvOf (eFn jn (aCons (eVar 0) (aCons (eVar 1) aNil)))) (sRet (eVar 1)) sNx))
      (sRet (eC D.non)))
def optD : Option D → D
  | none => .non
  | some d => d
def FourOf (f : List D → M D) : Prop := ∀ (n : Nat) (M : Mx) (S : Store), TbI n M → 1 ≤ n → n ≤ 8 → f [tbl M] S = .ok (optD (firstL n M)) S
theorem firstL_bel {n m : Nat} {M : Mx} : D.bel m (optD (firstL n M)) = true := by
  cases h : firstL n M with
  | none => rfl
  | some x =>
    obtain ⟨a, ha, h, _⟩ := fs_some h
    obtain ⟨b, hb, h, _⟩ := fs_some h
    obtain ⟨c, hc, h, _⟩ := fs_some h
    obtain ⟨d, hd, h, _⟩ := fs_some h
    cases hq : bad4 M a b c d with
    | true => rw [hq] at h; cases h; rfl
    | false => rw [hq] at h; cases h
theorem fourP {N : List Str} {frz : Bool} {Φ : Ph} {ja jn : Nat} (h1 : AllFours (Φ ja)) (h2 : NoTreeOf (Φ jn)) (hN : ∀ x, startR N [x] = [some x, none]) : FourOf fun ds => runF N (fourT ja jn) frz Φ ds := by
  intro n M S tb n1 n8
  refine run_pl ?_ firstL_bel
  rw [hN, ← first_eq tb n8]
  obtain ⟨ρ', ⟨x1, rfl⟩, hf⟩ := forS_some (gm := gmN (gNm 1) Φ) (body := sIf (tvOf (eFn jn (aCons (eVar 0) (aCons (eVar 1) aNil)))) (sRet (eVar 1)) sNx Φ) (S := S) (fun ρ => ∃ x1 : Option D, ρ = [some (tbl M), x1]) (fun r => D.tup (natsD r)) (fun r => if badL M r then some (.tup (natsD r)) else none) (l := ascF n 4) (ρ := [some (tbl M), none]) ⟨_, rfl⟩ (by
    rintro r hr ρ ⟨x1, rfl⟩
    obtain ⟨a, b, c, d, rfl, k1, k2, k3, k4⟩ := asc4.mp hr
    refine ⟨[some (tbl M), some (four a b c d)], [some (tbl M), some (four a b c d)], rfl, ⟨_, rfl⟩, ?_⟩
    refine sif_b (tv_of ((fn2 rfl rfl).trans (h2 n M a b c d S tb.sq (by omega) (by omega) (by omega) k4))) ?_
    show cond (bad4 M a b c d) _ _ = match (if bad4 M a b c d = true then _ else none : Option D) with | none => _ | some d => _
    cases bad4 M a b c d <;> rfl)
  have hs : sFor (fun Φ ρ => (eFn ja (aCons (eVar 0) aNil) Φ ρ).bind srcOf) (gmN (gNm 1)) (sIf (tvOf (eFn jn (aCons (eVar 0) (aCons (eVar 1) aNil)))) (sRet (eVar 1)) sNx) Φ [some (tbl M), none] S = _ := (sFor_of (srcL ((fn1 rfl).trans (h1 n M S tb.sq n8)))).trans hf
  unfold firstP
  cases hq : (ascF n 4).findSome? (fun r => if badL M r then some (D.tup (natsD r)) else none) with
  | none => rw [hq] at hs; exact seq_b hs (ret_of rfl)
  | some d => rw [hq] at hs; exact seq_rt hs
abbrev isTreeT (jc jf : Nat) : Sm := (sSeq (sDrop (eFn jc (aCons (eVar 0) aNil))) (sRet (eBin oIs (eFn jf (aCons (eVar 0) aNil)) (eC D.non))))
def IsTree (f : List D → M D) : Prop := ∀ (n : Nat) (M : Mx) (S : Store), TbI n M → 1 ≤ n → n ≤ 8 → f [tbl M] S = .ok (.bl (firstL n M).isNone) S
theorem is_non {n : Nat} {M : Mx} {S : Store} : oIs (optD (firstL n M)) .non S = .ok (.bl (firstL n M).isNone) S := by
  cases h : firstL n M with
  | none => rfl
  | some x =>
    obtain ⟨a, ha, h, _⟩ := fs_some h
    obtain ⟨b, hb, h, _⟩ := fs_some h
    obtain ⟨c, hc, h, _⟩ := fs_some h
    obtain ⟨d, hd, h, _⟩ := fs_some h
    cases hq : bad4 M a b c d with
    | true => rw [hq] at h; cases h; rfl
    | false => rw [hq] at h; cases h
theorem isTreeP {N : List Str} {frz : Bool} {Φ : Ph} {jc jf : Nat} (h1 : ChkTab (Φ jc)) (h2 : FourOf (Φ jf)) (hN : ∀ x, startR N [x] = [some x]) : IsTree fun ds => runF N (isTreeT jc jf) frz Φ ds := by
  intro n M S tb n1 n8
  refine run_bl ?_
  rw [hN]
  exact seq_b (drop_of ((fn1 rfl).trans (h1 n M S tb n1 n8))) (ret_of (bin_b ((fn1 rfl).trans (h2 n M S tb n1 n8)) rfl is_non))
abbrev chkFnT (jc jf : Nat) : Sm := (sSeq (sDrop (eFn jc (aCons (eVar 0) aNil))) (sRet (eFn jf (aCons (eVar 0) aNil))))
theorem fourChkP {N : List Str} {frz : Bool} {Φ : Ph} {jc jf : Nat} (h1 : ChkTab (Φ jc)) (h2 : FourOf (Φ jf)) (hN : ∀ x, startR N [x] = [some x]) : FourOf fun ds => runF N (chkFnT jc jf) frz Φ ds := by
  intro n M S tb n1 n8
  refine run_pl ?_ firstL_bel
  rw [hN]
  exact seq_b (drop_of ((fn1 rfl).trans (h1 n M S tb n1 n8))) (ret_of ((fn1 rfl).trans (h2 n M S tb n1 n8)))
abbrev partTabT (jc jl jp : Nat) : Sm :=
    (sSeq (sDrop (eFn jc (aCons (eVar 0) aNil)))
      (sSeq (sDrop (eFn jl (aCons (eCall (op1 fLen) (aCons (eVar 0) aNil)) (aCons (eVar 1) aNil))))
        (sRet (eFn jp (aCons (eVar 0) (aCons (eVar 1) aNil))))))
def PartTab (f : List D → M D) : Prop := ∀ (n : Nat) (M : Mx) (is : List Nat) (S : Store), TbI n M → 1 ≤ n → n ≤ 8 → isLot n is → f [tbl M, .tup (natsD is)] S = .ok (tbl (partM M is)) S
theorem tbl_len {n : Nat} {M : Mx} {S : Store} (sq : Sq n M) : fLen (tbl M) S = .ok (.int (n : Nat)) S := by
  refine (fLen_of (xs := M.map fun r => .tup (r.map D.int)) rfl).trans ?_
  rw [List.length_map, sq.1]
theorem partTabP {N : List Str} {frz : Bool} {Φ : Ph} {jc jl jp : Nat} (h1 : ChkTab (Φ jc)) (h2 : ChkLot (Φ jl)) (h3 : PartOf (Φ jp)) (hN : ∀ x y, startR N [x, y] = [some x, some y]) : PartTab fun ds => runF N (partTabT jc jl jp) frz Φ ds := by
  intro n M is S tb n1 n8 hl
  have ll := lot_len hl
  refine run_pl ?_ (tbl_bel _ _)
  rw [hN]
  exact seq_b (drop_of ((fn1 rfl).trans (h1 n M S tb n1 n8))) (seq_b (drop_of ((fn2 ((call1 rfl).trans (tbl_len tb.sq)) rfl).trans (h2 n is S (by omega) hl))) (ret_of ((fn2 rfl rfl).trans (h3 n M is S tb.sq (by omega) hl.1))))
/-! the law's own -/
abbrev first5 : Sm := (sSeq
                  (sAsg
                    (eCall (op1 (fSorted false))
                      (aCons
                        (eLst false
                          (aCons
                            (eBin oAdd (eBin oIx (eBin oIx (eVar 0) (eVar 2)) (eVar 3))
                              (eBin oIx (eBin oIx (eVar 0) (eVar 4)) (eVar 5)))
                            (aCons
                              (eBin oAdd (eBin oIx (eBin oIx (eVar 0) (eVar 2)) (eVar 4))
                                (eBin oIx (eBin oIx (eVar 0) (eVar 3)) (eVar 5)))
                              (aCons
                                (eBin oAdd (eBin oIx (eBin oIx (eVar 0) (eVar 2)) (eVar 5))
                                  (eBin oIx (eBin oIx (eVar 0) (eVar 3)) (eVar 4)))
                                aNil))))
                        aNil))
                    (gmN (gNm 6)))
                  (sIf (tCmp oNe (eBin oIx (eVar 6) (eC (D.int 1))) (eBin oIx (eVar 6) (eC (D.int 2))))
                    (sRet (eTup (aCons (eVar 2) (aCons (eVar 3) (aCons (eVar 4) (aCons (eVar 5) aNil)))) 0)) sNx))
abbrev first4 : Sm := sFor (vSrc sRng (aCons (eVar 1) aNil)) (gmN (gNm 5)) first5
abbrev first3 : Sm := sFor (vSrc sRng (aCons (eVar 1) aNil)) (gmN (gNm 4)) first4
abbrev first2 : Sm := sFor (vSrc sRng (aCons (eVar 1) aNil)) (gmN (gNm 3)) first3
abbrev firstT : Sm :=
    (sSeq (sAsg (eCall (op1 fLen) (aCons (eVar 0) aNil)) (gmN (gNm 1)))
      (sSeq
        (sFor (vSrc sRng (aCons (eVar 1) aNil)) (gmN (gNm 2)) first2)
        (sRet (eC D.non))))
theorem for_first {Φ : Ph} {v n : Nat} {b : Sm} {ρ : Ro} {S : Store} (P : Ro → Prop) (g : Nat → Option D) (hn : n ≤ 1000) (h1 : eVar 1 Φ ρ S = .ok (.int (n : Nat)) S) (p : P ρ) (h : ∀ i, i < n → ∀ ρ, P ρ → ∃ ρ2, P ρ2 ∧ b Φ (ρ.set v (some (.int (i : Nat)))) S = match g i with | none => .nx ρ2 S | some d => .rt d S) :
    ∃ ρ', P ρ' ∧ sFor (vSrc sRng (aCons (eVar 1) aNil)) (gmN (gNm v)) b Φ ρ S = match (List.range n).findSome? g with | none => .nx ρ' S | some d => .rt d S := by
  obtain ⟨ρ', p', hf⟩ := forS_some (gm := gmN (gNm v) Φ) (body := b Φ) (S := S) P (fun i => D.int (i : Nat)) g (l := List.range n) (ρ := ρ) p fun i hi ρ hp => by
    obtain ⟨ρ2, h2, h3⟩ := h i (List.mem_range.mp hi) ρ hp
    exact ⟨_, ρ2, rfl, h2, h3⟩
  refine ⟨ρ', p', (sFor_of (src_rng (n := n) h1 (by omega))).trans ?_⟩
  rw [rngD_map]; exact hf
theorem lawSums {Φ : Ph} {ρ : Ro} {S : Store} {n : Nat} {M : Mx} {a b c d : Nat} (sq : Sq n M) (ha : a < n) (hb : b < n) (hc : c < n) (hd : d < n) (h0 : eVar 0 Φ ρ S = .ok (tbl M) S) (h2 : eVar 2 Φ ρ S = .ok (.int (a : Nat)) S) (h3 : eVar 3 Φ ρ S = .ok (.int (b : Nat)) S) (h4 : eVar 4 Φ ρ S = .ok (.int (c : Nat)) S) (h5 : eVar 5 Φ ρ S = .ok (.int (d : Nat)) S) :
    eCall (op1 (fSorted false))
                      (aCons
                        (eLst false
                          (aCons
                            (eBin oAdd (eBin oIx (eBin oIx (eVar 0) (eVar 2)) (eVar 3))
                              (eBin oIx (eBin oIx (eVar 0) (eVar 4)) (eVar 5)))
                            (aCons
                              (eBin oAdd (eBin oIx (eBin oIx (eVar 0) (eVar 2)) (eVar 4))
                                (eBin oIx (eBin oIx (eVar 0) (eVar 3)) (eVar 5)))
                              (aCons
                                (eBin oAdd (eBin oIx (eBin oIx (eVar 0) (eVar 2)) (eVar 5))
                                  (eBin oIx (eBin oIx (eVar 0) (eVar 3)) (eVar 4)))
                                aNil))))
                        aNil) Φ ρ S = .ok (.lst ((sums4 M a b c d).map D.int)) S := by
  have q1 := bin_b (tix sq h0 h2 h3 ha hb) (tix sq h0 h4 h5 hc hd) (add_b rfl)
  have q2 := bin_b (tix sq h0 h2 h4 ha hc) (tix sq h0 h3 h5 hb hd) (add_b rfl)
  have q3 := bin_b (tix sq h0 h2 h5 ha hd) (tix sq h0 h3 h4 hb hc) (add_b rfl)
  exact (call1 (lst_of (args3 q1 q2 q3) (by simp))).trans (sorted_intsL (ns := [getM M a b + getM M c d, getM M a c + getM M b d, getM M a d + getM M b c]))
theorem firstTP {N : List Str} {frz : Bool} {Φ : Ph} (hN : ∀ x, startR N [x] = [some x, none, none, none, none, none, none]) : FourOf fun ds => runF N firstT frz Φ ds := by
  intro n M S tb n1 n8
  refine run_pl ?_ firstL_bel
  rw [hN]
  refine seq_b (asg_b ((call1 rfl).trans (tbl_len tb.sq)) rfl rfl) ?_
  obtain ⟨ρ', ⟨x2, x3, x4, x5, x6, rfl⟩, hf⟩ := for_first (Φ := Φ) (v := 2) (n := n) (S := S) (ρ := [some (tbl M), some (.int (n : Nat)), none, none, none, none, none]) (b := first2) (fun ρ => ∃ x2 x3 x4 x5 x6 : Option D, ρ = [some (tbl M), some (.int (n : Nat)), x2, x3, x4, x5, x6]) (fun a => (List.range n).findSome? fun b => (List.range n).findSome? fun c => (List.range n).findSome? fun d => if bad4 M a b c d then some (four a b c d) else none) (by omega) rfl ⟨_, _, _, _, _, rfl⟩ (by
    rintro a ha ρ ⟨x2, x3, x4, x5, x6, rfl⟩
    obtain ⟨ρ', ⟨x3, x4, x5, x6, rfl⟩, hf⟩ := for_first (Φ := Φ) (v := 3) (n := n) (S := S) (b := first3) (ρ := [some (tbl M), some (.int (n : Nat)), some (.int (a : Nat)), x3, x4, x5, x6]) (fun ρ => ∃ x3 x4 x5 x6 : Option D, ρ = [some (tbl M), some (.int (n : Nat)), some (.int (a : Nat)), x3, x4, x5, x6]) (fun b => (List.range n).findSome? fun c => (List.range n).findSome? fun d => if bad4 M a b c d then some (four a b c d) else none) (by omega) rfl ⟨_, _, _, _, rfl⟩ (by
      rintro b hb ρ ⟨x3, x4, x5, x6, rfl⟩
      obtain ⟨ρ', ⟨x4, x5, x6, rfl⟩, hf⟩ := for_first (Φ := Φ) (v := 4) (n := n) (S := S) (b := first4) (ρ := [some (tbl M), some (.int (n : Nat)), some (.int (a : Nat)), some (.int (b : Nat)), x4, x5, x6]) (fun ρ => ∃ x4 x5 x6 : Option D, ρ = [some (tbl M), some (.int (n : Nat)), some (.int (a : Nat)), some (.int (b : Nat)), x4, x5, x6]) (fun c => (List.range n).findSome? fun d => if bad4 M a b c d then some (four a b c d) else none) (by omega) rfl ⟨_, _, _, rfl⟩ (by
        rintro c hc ρ ⟨x4, x5, x6, rfl⟩
        obtain ⟨ρ', ⟨x5, x6, rfl⟩, hf⟩ := for_first (Φ := Φ) (v := 5) (n := n) (S := S) (b := first5) (ρ := [some (tbl M), some (.int (n : Nat)), some (.int (a : Nat)), some (.int (b : Nat)), some (.int (c : Nat)), x5, x6]) (fun ρ => ∃ x5 x6 : Option D, ρ = [some (tbl M), some (.int (n : Nat)), some (.int (a : Nat)), some (.int (b : Nat)), some (.int (c : Nat)), x5, x6]) (fun d => if bad4 M a b c d then some (four a b c d) else none) (by omega) rfl ⟨_, _, rfl⟩ (by
          rintro d hd ρ ⟨x5, x6, rfl⟩
          refine ⟨[some (tbl M), some (.int (n : Nat)), some (.int (a : Nat)), some (.int (b : Nat)), some (.int (c : Nat)), some (.int (d : Nat)), some (.lst ((sums4 M a b c d).map D.int))], ⟨_, _, rfl⟩, ?_⟩
          refine seq_b (asg_b (lawSums tb.sq ha hb hc hd rfl rfl rfl rfl rfl) rfl rfl) ?_
          obtain ⟨u, v, w, e⟩ := sort3 (getM M a b + getM M c d) (getM M a c + getM M b d) (getM M a d + getM M b c)
          have e4 : bad4 M a b c d = !(v == w) := by
            unfold bad4 sums4; rw [e]; rfl
          refine sif_b (p := bad4 M a b c d) (S1 := S) (cmp_of (x := .int v) (y := .int w) (S1 := S) (S2 := S) (S3 := S) ?_ ?_ (nei_b (by rw [e4]))) ?_
          · exact bin_b rfl rfl (oIx_of (xs := [u, v, w].map D.int) (by rw [← e]; rfl) rfl)
          · exact bin_b rfl rfl (oIx_of (xs := [u, v, w].map D.int) (by rw [← e]; rfl) rfl)
          · cases bad4 M a b c d with
            | true => exact ret_of (tup_of (S1 := S) (ds := natsD [a, b, c, d]) (args_cons rfl (args3 rfl rfl rfl)) (by show 4 ≤ _; decide))
            | false => rfl)
        exact ⟨_, ⟨_, _, _, rfl⟩, hf⟩)
      exact ⟨_, ⟨_, _, _, _, rfl⟩, hf⟩)
    exact ⟨_, ⟨_, _, _, _, _, rfl⟩, hf⟩)
  unfold firstL
  cases hq : (List.range n).findSome? (fun a => (List.range n).findSome? fun b => (List.range n).findSome? fun c => (List.range n).findSome? fun d => if bad4 M a b c d then some (four a b c d) else none) with
  | none => rw [hq] at hf; exact seq_b hf (ret_of rfl)
  | some d => rw [hq] at hf; exact seq_rt hf
end G
end

section
set_option Elab.async false
set_option linter.all false
set_option maxRecDepth 100000
namespace G
open PySem PySem.Spec PyProof.Rows L2
/-! ### laws over laps -/
def PoolOK (f : List D → M D) : Prop := ∀ (ns : List Int) (lap : Nat) (S : Store), ns.length ≤ 63 → ∃ c, f [rolI ns, .int (lap : Nat)] S = .ok (.ref S.length) (S ++ [c]) ∧ IsPool c
def RightOK (f : List D → M D) : Prop := ∀ (S : Store) (w : Nat) (c : Cell), S[w]? = some c → IsPool c → ∃ c', f [.ref w] S = .ok (.bl true) (S.set w c') ∧ IsPool c'
abbrev lapsT (jr jp : Nat) : Sm :=
    (sSeq
      (sFor
        (vSrc sRng
          (aCons
            (eCall (op2 fMax2)
              (aCons (eC (D.int 2))
                (aCons (eCall (op2 fMin2) (aCons (eCall (op1 fLen) (aCons (eVar 0) aNil)) (aCons (eC (D.int 3)) aNil)))
                  aNil)))
            aNil))
        (gmN (gNm 1))
        (sIf (vNot (tvOf (eFn jr (aCons (eFn jp (aCons (eVar 0) (aCons (eVar 1) aNil))) aNil))))
          (sRet (eC (D.bl false))) sNx))
      (sRet (eC (D.bl true))))
def LapsOK (f : List D → M D) : Prop := ∀ ns : List Int, ns.length ≤ 63 → ∃ S, f [rolI ns] [] = .ok (.bl true) S
theorem lapsP {N : List Str} {frz : Bool} {Φ : Ph} {jr jp : Nat} (hp : PoolOK (Φ jp)) (hr : RightOK (Φ jr)) (hN : ∀ x, startR N [x] = [some x, none]) : LapsOK fun ds => runF N (lapsT jr jp) frz Φ ds := by
  intro ns hn
  obtain ⟨m, hm⟩ : ∃ m : Nat, vSrc sRng (aCons (eCall (op2 fMax2) (aCons (eC (D.int 2)) (aCons (eCall (op2 fMin2) (aCons (eCall (op1 fLen) (aCons (eVar 0) aNil)) (aCons (eC (D.int 3)) aNil))) aNil))) aNil) Φ [some (rolI ns), none] [] = .ok (fixS (rngD 0 m)) [] := by
    obtain ⟨y, hy⟩ : ∃ y : Int, fMin2 (.int ((ns.map D.int).length : Nat)) (.int 3) [] = .ok (.int y) [] ∧ y ≤ 3 := by
      unfold fMin2
      refine ⟨_, rfl, ?_⟩
      split <;> omega
    obtain ⟨z, hz⟩ : ∃ z : Int, fMax2 (.int 2) (.int y) [] = .ok (.int z) [] ∧ 2 ≤ z ∧ z ≤ 3 := by
      unfold fMax2
      refine ⟨_, rfl, ?_⟩
      have := hy.2
      split <;> omega
    refine ⟨z.toNat, ?_⟩
    refine (vsrc_of (args1 ((call2 rfl ((call2 ((call1 rfl).trans (fLen_of rfl)) rfl).trans hy.1)).trans hz.1))).trans ((sRng1_of (by omega)).trans rfl)
  obtain ⟨ρ', S', h1, _⟩ := sFor_rng (Φ := Φ) (gm := gmN (gNm 1)) (b := sIf (vNot (tvOf (eFn jr (aCons (eFn jp (aCons (eVar 0) (aCons (eVar 1) aNil))) aNil)))) (sRet (eC (D.bl false))) sNx) hm (fun _ ρ S => ∃ x1 : Option D, ρ = [some (rolI ns), x1]) ⟨none, rfl⟩ (by
    rintro i ρ S hi ⟨x1, rfl⟩
    have ei : (0 : Int) + ((i : Nat) : Int) = ((i : Nat) : Int) := by omega
    rw [ei]
    obtain ⟨c, g1, hc⟩ := hp ns i S hn
    obtain ⟨c', g2, hc'⟩ := hr (S ++ [c]) S.length c get_last hc
    exact ⟨[some (rolI ns), some (.int (i : Nat))], S, [some (rolI ns), some (.int (i : Nat))], _, rfl, .inl ((sif_f (vnot_of (tv_of ((fn1 ((fn2 rfl rfl).trans g1)).trans g2)))).trans rfl), _, rfl⟩)
  refine ⟨_, run_st (d := .bl true) (S1 := S') ?_ rfl⟩
  rw [hN]
  exact (seq_of h1).trans (ret_of rfl)
theorem fnk1 {i : Nat} {p : Str} {a : Ev} {Φ : Ph} {ρ : Ro} {S S1 : Store} {x : D} (h : a Φ ρ S = .ok x S1) : eFnK i [p] 0 [p] aNil (aCons a aNil) Φ ρ S = Φ i [x] S1 := by
  unfold eFnK
  rw [bind_of args0, bind_of (args1 h)]
  have e : arr [p] 0 [p] ([] : List D) [x] = [x] := by unfold arr; simp
  rw [e]
/-- a told value, drawn by name or by place -/
theorem told2 {Φ : Ph} {ρ : Ro} {j : Nat} {a b : Ev} {S : Store} {w : Nat} {c : Cell} {x : Ev} {y : Ev} {d : D} (hd : DrawOK (Φ j)) (h : S[w]? = some c) (hc : IsPool c) (h1 : a Φ ρ S = .ok (.ref w) S) {m : Int} (m0 : 0 < m) (m1 : m < 1073741824) (hx : ∀ c', x Φ ρ (S.set w c') = .ok d (S.set w c')) (hy : ∀ c', y Φ ρ (S.set w c') = .ok d (S.set w c')) :
    ∃ c', eIf (tCmp oEq (eFn j (aCons a (aCons (eC (D.int m)) aNil))) (eC (D.int 0))) x y Φ ρ S = .ok d (S.set w c') ∧ IsPool c' := by
  obtain ⟨b', c', g, hc'⟩ := drawZ (b := eC (.int m)) hd h hc h1 rfl m0 m1
  refine ⟨c', eif_b g ?_, hc'⟩
  cases b' with
  | true => exact cond_t (hx c')
  | false => exact cond_f (hy c')
/-! ### a block and what holds behind it -/
def Nx (P : Ro → Store → Prop) (rs : Rs) : Prop := ∃ ρ S, (rs = .nx ρ S ∨ rs = .ct ρ S) ∧ P ρ S
def Rt (P : D → Store → Prop) (rs : Rs) : Prop := ∃ d S, rs = .rt d S ∧ P d S
section
variable {Q : Rs → Prop} {Φ : Ph} {ρ ρ1 : Ro} {S S1 S2 S0 : Store} {a b u v : Sm} {e : Ev} {d : D} {i : Nat} {t : Tv} {g : Gm} {q : Ph → Ro → M (List D)} {ds : List D} {is : List Nat} {p : Bool}
theorem qseq (h : a Φ ρ S = .nx ρ1 S1) (k : Q (b Φ ρ1 S1)) : Q (sSeq a b Φ ρ S) := by rw [seq_of h]; exact k
theorem qasg (h : e Φ ρ S = .ok d S1) (r : ρ.set i (some d) = ρ1) (k : Q (b Φ ρ1 S1)) : Q (sSeq (sAsg e (gmN (gNm i))) b Φ ρ S) := qseq (asg_b h r rfl) k
theorem qasgE (h : e Φ ρ S = .ok d S1) (r : ρ.set i (some d) = ρ1) (k : Q (.nx ρ1 S1)) : Q (sAsg e (gmN (gNm i)) Φ ρ S) := by rw [asg_b h r rfl]; exact k
theorem qasgG (h : e Φ ρ S = .ok d S1) (h2 : g Φ d ρ S1 = .ok ρ1 S2) (k : Q (b Φ ρ1 S2)) : Q (sSeq (sAsg e g) b Φ ρ S) := qseq (asgG_of h h2) k
theorem qasgGE (h : e Φ ρ S = .ok d S1) (h2 : g Φ d ρ S1 = .ok ρ1 S2) (k : Q (.nx ρ1 S2)) : Q (sAsg e g Φ ρ S) := by rw [asgG_of h h2]; exact k
theorem qpar (h : q Φ ρ S = .ok ds S1) (h2 : setAll is ds ρ = some ρ1) (k : Q (b Φ ρ1 S1)) : Q (sSeq (sPar is q) b Φ ρ S) := qseq (par_of h h2) k
theorem qdrop (h : e Φ ρ S = .ok d S1) (k : Q (b Φ ρ S1)) : Q (sSeq (sDrop e) b Φ ρ S) := qseq (drop_of h) k
theorem qdropE (h : e Φ ρ S = .ok d S1) (k : Q (.nx ρ S1)) : Q (sDrop e Φ ρ S) := by rw [drop_of h]; exact k
theorem qret (h : e Φ ρ S = .ok d S1) (k : Q (.rt d S1)) : Q (sRet e Φ ρ S) := by rw [ret_of h]; exact k
theorem qif (h : t Φ ρ S = .ok p S1) (k : Q (cond p (u Φ ρ S1) (v Φ ρ S1))) : Q (sIf t u v Φ ρ S) := by rw [sif_b h rfl]; exact k
theorem qif_f (h : t Φ ρ S = .ok false S1) (k : Q (v Φ ρ S1)) : Q (sIf t u v Φ ρ S) := by rw [sif_f h]; exact k
theorem qif_t (h : t Φ ρ S = .ok true S1) (k : Q (u Φ ρ S1)) : Q (sIf t u v Φ ρ S) := by rw [sif_t h]; exact k
/-- an if without an end, not taken -/
theorem qskip (h : t Φ ρ S = .ok false S1) (k : Q (b Φ ρ S1)) : Q (sSeq (sIf t u sNx) b Φ ρ S) := qseq ((sif_f h).trans rfl) k
theorem qskipE (h : t Φ ρ S = .ok false S1) (k : Q (.nx ρ S1)) : Q (sIf t u sNx Φ ρ S) := by rw [sif_f h]; exact k
theorem qloop {sv : Sv} {gm : Gm} {body : Sm} {xs : List D} (hs : sv Φ ρ S = .ok (fixS xs) S0) (Inv : List D → Ro → Store → Prop) (h0 : Inv xs ρ S0)
    (h : ∀ x r ρ S, Inv (x :: r) ρ S → ∃ ρ1 S1, gm Φ x ρ S = .ok ρ1 S1 ∧ Nx (Inv r) (body Φ ρ1 S1)) (k : ∀ ρ' S', Inv [] ρ' S' → Q (b Φ ρ' S')) : Q (sSeq (sFor sv gm body) b Φ ρ S) := by
  obtain ⟨ρ', S', h1, h2⟩ := forS_inv (gm := gm Φ) (body := body Φ) Inv (fun x r ρ S i => by
    obtain ⟨ρ1, S1, q1, ρ2, S2, q2, q3⟩ := h x r ρ S i
    exact ⟨ρ1, S1, ρ2, S2, q1, q2, q3⟩) h0
  exact qseq ((sFor_of hs).trans h1) (k ρ' S' h2)
theorem qloopE {sv : Sv} {gm : Gm} {body : Sm} {xs : List D} (hs : sv Φ ρ S = .ok (fixS xs) S0) (Inv : List D → Ro → Store → Prop) (h0 : Inv xs ρ S0)
    (h : ∀ x r ρ S, Inv (x :: r) ρ S → ∃ ρ1 S1, gm Φ x ρ S = .ok ρ1 S1 ∧ Nx (Inv r) (body Φ ρ1 S1)) (k : ∀ ρ' S', Inv [] ρ' S' → Q (.nx ρ' S')) : Q (sFor sv gm body Φ ρ S) := by
  obtain ⟨ρ', S', h1, h2⟩ := forS_inv (gm := gm Φ) (body := body Φ) Inv (fun x r ρ S i => by
    obtain ⟨ρ1, S1, q1, ρ2, S2, q2, q3⟩ := h x r ρ S i
    exact ⟨ρ1, S1, ρ2, S2, q1, q2, q3⟩) h0
  rw [(sFor_of hs).trans h1]; exact k ρ' S' h2
end
theorem nx_done {P : Ro → Store → Prop} {ρ : Ro} {S : Store} (h : P ρ S) : Nx P (.nx ρ S) := ⟨ρ, S, .inl rfl, h⟩
theorem ct_done {P : Ro → Store → Prop} {ρ : Ro} {S : Store} (h : P ρ S) : Nx P (.ct ρ S) := ⟨ρ, S, .inr rfl, h⟩
theorem cond_both {α : Type} {p : Bool} {x y r : α} (h : x = r) (h2 : y = r) : cond p x y = r := by
  cases p with
  | true => exact h
  | false => exact h2
theorem rightQ {N : List Str} {sv : Sm} {frz : Bool} {Φ : Ph} {w : Nat} {S : Store} (h : Rt (fun d S' => d = .bl true ∧ ∃ c' B, IsPool c' ∧ S' = S.set w c' ++ B) (sv Φ (startR N [.ref w]) S)) : ∃ c', runF N sv frz Φ [.ref w] S = .ok (.bl true) (S.set w c') ∧ IsPool c' := by
  obtain ⟨d, S', h1, rfl, c', B, hc', rfl⟩ := h
  refine ⟨c', (run_st h1 rfl).trans ?_, hc'⟩
  rw [← len_set (S := S) (w := w) (c := c'), take_app]
/-! TABLEs given -/
def tbB (n : Nat) (M : Mx) : Bool := (M.length == n && M.all fun r => r.length == n) && (List.range n).all fun i => getM M i i == 0 && (List.range n).all fun j => decide (0 ≤ getM M i j) && (decide (getM M i j ≤ 999) && getM M i j == getM M j i)
theorem tb_of {n : Nat} {M : Mx} (h : tbB n M = true) : TbI n M := by
  unfold tbB at h
  rw [Bool.and_eq_true, Bool.and_eq_true, beq_iff_eq, List.all_eq_true, List.all_eq_true] at h
  obtain ⟨⟨h1, h2⟩, h3⟩ := h
  have h4 : ∀ i j, i < n → j < n → 0 ≤ getM M i j ∧ getM M i j ≤ 999 ∧ getM M i j = getM M j i := fun i j hi hj => by
    have q := h3 i (List.mem_range.mpr hi)
    rw [Bool.and_eq_true, List.all_eq_true] at q
    have q := q.2 j (List.mem_range.mpr hj)
    simpa using q
  refine ⟨⟨h1, fun r hr => by simpa using h2 r hr⟩, fun i j a b => (h4 i j a b).1, fun i j a b => (h4 i j a b).2.1, fun i j a b => (h4 i j a b).2.2, fun i hi => ?_⟩
  have q := h3 i (List.mem_range.mpr hi)
  rw [Bool.and_eq_true] at q
  simpa using q.1
theorem firstL_shp {n m : Nat} {M : Mx} : D.shp (m + 1) (optD (firstL n M)) = true := by
  cases h : firstL n M with
  | none => rfl
  | some x =>
    obtain ⟨a, ha, h, _⟩ := fs_some h
    obtain ⟨b, hb, h, _⟩ := fs_some h
    obtain ⟨c, hc, h, _⟩ := fs_some h
    obtain ⟨d, hd, h, _⟩ := fs_some h
    cases hq : bad4 M a b c d with
    | true => rw [hq] at h; cases h; exact shps_nats m [a, b, c, d]
    | false => rw [hq] at h; cases h
/-- all places but one -/
theorem lot_but {n : Nat} (h : 1 < n) (o : Int) : isLot n ((List.range n).filter fun i => !(((i : Nat) : Int) == o)) := by
  refine ⟨fun i hi => List.mem_range.mp (List.mem_filter.mp hi).1, List.Pairwise.sublist List.filter_sublist List.pairwise_lt_range, fun z => ?_⟩
  have q := List.filter_eq_nil_iff.mp z
  have q0 := q 0 (List.mem_range.mpr (by omega))
  have q1 := q 1 (List.mem_range.mpr h)
  simp at q0 q1
  omega
end G
end

section
set_option Elab.async false
set_option linter.all false
set_option maxRecDepth 100000
namespace G
open PySem PySem.Spec PyProof.Rows L2
theorem qtake {Q : Rs → Prop} {Φ : Ph} {ρ : Ro} {S S1 S2 : Store} {t : Tv} {u v b : Sm} {d : D} (h : t Φ ρ S = .ok true S1) (hu : u Φ ρ S1 = .rt d S2) (k : Q (.rt d S2)) : Q (sSeq (sIf t u v) b Φ ρ S) := by
  have e : sIf t u v Φ ρ S = .rt d S2 := (sif_t h).trans hu
  rw [seq_rt e]; exact k
/-! ### a drawn TABLE of some kind -/
def absI (i : Int) : Int := if i < 0 then -i else i
theorem absI_le {i : Int} {b : Int} (h1 : -b ≤ i) (h2 : i ≤ b) : 0 ≤ absI i ∧ absI i ≤ b := by unfold absI; split <;> omega
theorem absI_sy (a b : Int) : absI (a - b) = absI (b - a) := by unfold absI; split <;> split <;> omega
def absM (is : List Int) : Mx := is.map fun a => is.map fun b => absI (a - b)
theorem getM_abs {is : List Int} {i j : Nat} (hi : i < is.length) (hj : j < is.length) : getM (absM is) i j = absI (is.getD i 0 - is.getD j 0) := by
  rw [getD_at hi, getD_at hj]
  have e : (absM is).getD i [] = is.map fun b => absI (is[i] - b) := by
    unfold absM
    rw [getD_at (by rw [List.length_map]; exact hi), List.getElem_map]
  show ((absM is).getD i []).getD j 0 = _
  rw [e, getD_at (by rw [List.length_map]; exact hj), List.getElem_map]
theorem abs_tb {is : List Int} (h : ∀ i ∈ is, 0 ≤ i ∧ i < 500) : TbI is.length (absM is) := by
  have g : ∀ {a}, a < is.length → 0 ≤ is.getD a 0 ∧ is.getD a 0 < 500 := fun ha => h _ (getD_mem ha)
  have bd : ∀ i j, i < is.length → j < is.length → 0 ≤ getM (absM is) i j ∧ getM (absM is) i j ≤ 999 := fun i j hi hj => by
    rw [getM_abs hi hj]
    have := g hi; have := g hj
    exact absI_le (by omega) (by omega)
  refine ⟨⟨by unfold absM; simp, fun r hr => ?_⟩, fun i j a b => (bd i j a b).1, fun i j a b => (bd i j a b).2, fun i j a b => ?_, fun i a => ?_⟩
  · unfold absM at hr
    obtain ⟨i, _, rfl⟩ := List.mem_map.mp hr
    simp
  · rw [getM_abs a b, getM_abs b a, absI_sy]
  · rw [getM_abs a a, Int.sub_self]; rfl
theorem tbl_abs (is : List Int) : tbl (absM is) = .tup (is.map fun a => D.tup (is.map fun b => D.int (absI (a - b)))) := by
  unfold tbl absM
  rw [List.map_map]
  congr 1
  refine List.map_congr_left fun i _ => ?_
  show D.tup _ = D.tup _
  rw [List.map_map]; rfl
theorem ints_of {P : Int → Prop} : ∀ {ys : List D}, (∀ y ∈ ys, ∃ i : Int, y = .int i ∧ P i) → ∃ is : List Int, ys = is.map D.int ∧ ∀ i ∈ is, P i
  | [], _ => ⟨[], rfl, fun i h => by cases h⟩
  | y :: r, h => by
    obtain ⟨i, rfl, hi⟩ := h y List.mem_cons_self
    obtain ⟨is, rfl, q⟩ := ints_of fun z hz => h z (List.mem_cons_of_mem _ hz)
    refine ⟨i :: is, rfl, fun j hj => ?_⟩
    rcases List.mem_cons.mp hj with rfl | hj
    · exact hi
    · exact q j hj
abbrev kindT (jd jt jc jm ja : Nat) : Sm :=
    (sSeq (sAsg (eFn jd (aCons (eVar 0) (aCons (eC (D.int 4)) aNil))) (gmN (gNm 2)))
      (sSeq (sIf (tCmp oEq (eVar 2) (eC (D.int 0))) (sRet (eFn jt (aCons (eVar 0) (aCons (eVar 1) aNil)))) sNx)
        (sSeq
          (sIf (tCmp oEq (eVar 2) (eC (D.int 1)))
            (sRet (eFn jc (aCons (eVar 0) (aCons (eFn jm (aCons (eVar 0) (aCons (eVar 1) aNil))) aNil)))) sNx)
          (sSeq
            (sIf (tCmp oEq (eVar 2) (eC (D.int 2)))
              (sSeq
                (sAsg
                  (eLc false (vSrc sRng (aCons (eVar 1) aNil)) (gNm 4) vYes
                    (eFn jd (aCons (eVar 0) (aCons (eC (D.int 30)) aNil)))
                    [4])
                  (gmN (gNm 3)))
                (sRet
                  (eCall (op1 fTuple)
                    (aCons
                      (eLc false (fun Φ ρ => (eVar 3 Φ ρ).bind srcOf) (gNm 5) vYes
                        (eCall (op1 fTuple)
                          (aCons
                            (eLc false (fun Φ ρ => (eVar 3 Φ ρ).bind srcOf) (gNm 6) vYes
                              (eCall (op1 fAbs) (aCons (eBin oSub (eVar 5) (eVar 6)) aNil))
                              [6])
                            aNil))
                        [5])
                      aNil))))
              sNx)
            (sRet (eFn ja (aCons (eVar 0) (aCons (eVar 1) aNil))))))))
theorem tabQ {N : List Str} {sv : Sm} {frz : Bool} {Φ : Ph} {ds : List D} {w n : Nat} {S : Store} {P : Nat → Mx → Prop} (h : Rt (fun d S' => ∃ M c', d = tbl M ∧ S' = S.set w c' ∧ IsPool c' ∧ TbI n M ∧ P n M) (sv Φ (startR N ds) S)) : ∃ M c', runF N sv frz Φ ds S = .ok (tbl M) (S.set w c') ∧ IsPool c' ∧ TbI n M ∧ P n M := by
  obtain ⟨d, S', h1, M, c', rfl, rfl, hc', tb, p⟩ := h
  exact ⟨M, c', (run_st h1 (tbl_bel _ _)).trans (by rw [take_set]), hc', tb, p⟩
theorem kindP {N : List Str} {frz : Bool} {Φ : Ph} {jd jt jc jm ja : Nat} {P P' : Nat → Mx → Prop} (hd : DrawOK (Φ jd)) (ht : TableOK (Φ jt) P) (hc : CutOK (Φ jc)) (hm : MixedOK (Φ jm)) (ha : TableOK (Φ ja) P') (hN : ∀ x y, startR N [x, y] = [some x, some y, none, none, none, none, none]) :
    TableOK (fun ds => runF N (kindT jd jt jc jm ja) frz Φ ds) fun _ _ => True := by
  intro S w c n h hp n1 n8
  have hw : ∀ c, (S.set w c)[w]? = some c := fun c => get_set h
  refine tabQ (N := N) (sv := kindT jd jt jc jm ja) (frz := frz) (Φ := Φ) (ds := [.ref w, .int (n : Nat)]) (w := w) (n := n) (S := S) (P := fun _ _ => True) ?_
  rw [hN]
  obtain ⟨v, c1, g, hc1, v0, v4⟩ := hd S w c 4 h hp (by decide) (by decide)
  refine qasg ((fn2 rfl rfl).trans g) rfl ?_
  by_cases e0 : v = 0
  · obtain ⟨M, c2, g2, hc2, tb, _⟩ := ht (S.set w c1) w c1 n (hw c1) hc1 n1 n8
    rw [List.set_set] at g2
    exact qtake (cmp_of rfl rfl (eqi_b (by rw [e0]; rfl))) (ret_of ((fn2 rfl rfl).trans g2)) ⟨_, _, rfl, M, c2, rfl, rfl, hc2, tb, trivial⟩
  refine qskip (cmp_of rfl rfl (eqi_b (by rw [beq_eq_false_iff_ne.mpr e0]))) ?_
  by_cases e1 : v = 1
  · obtain ⟨os, c2, g2, hc2, pm⟩ := hm (S.set w c1) w c1 n (hw c1) hc1 (by omega)
    rw [List.set_set] at g2
    obtain ⟨M, c3, g3, hc3, tb⟩ := hc (S.set w c2) w c2 n os (hw c2) hc2 n1 n8 (by rw [pm.length_eq, rgI_len])
    rw [List.set_set] at g3
    exact qtake (cmp_of rfl rfl (eqi_b (by rw [e1]; rfl))) (ret_of ((fn2 rfl ((fn2 rfl rfl).trans g2)).trans g3)) ⟨_, _, rfl, M, c3, rfl, rfl, hc3, tb, trivial⟩
  refine qskip (cmp_of rfl rfl (eqi_b (by rw [beq_eq_false_iff_ne.mpr e1]))) ?_
  by_cases e2 : v = 2
  · obtain ⟨ys, S2, g2, ⟨c2, rfl, hc2⟩, hl, hy⟩ := eLc_inv (sv := vSrc sRng (aCons (eVar 1) aNil)) (gv := gNm 4) (tv := vYes) (ev := eFn jd (aCons (eVar 0) (aCons (eC (D.int 30)) aNil))) (vs := [4]) (Φ := Φ) (ρ := [some (.ref w), some (.int (n : Nat)), some (.int v), none, none, none, none]) (S := S.set w c1) (xs := rngD 0 n)
      (P := fun S' => ∃ c, S' = S.set w c ∧ IsPool c) (Q := fun y => ∃ i : Int, y = .int i ∧ (0 ≤ i ∧ i < 500)) (src_rng (n := n) rfl (by omega)) (by rw [rng_len]; omega) ⟨c1, rfl, hc1⟩ (by
        rintro x hx S' ⟨c, rfl, hc⟩
        obtain ⟨u, c', g, hc', u0, u1⟩ := hd (S.set w c) w c 30 (hw c) hc (by decide) (by decide)
        rw [List.set_set] at g
        exact ⟨[some (.ref w), some (.int (n : Nat)), some (.int v), none, some x, none, none], .int u, S.set w c', rfl, rfl, (fn2 rfl rfl).trans g, ⟨c', rfl, hc'⟩, u, rfl, u0, by omega⟩)
    obtain ⟨is, rfl, hi⟩ := ints_of hy
    rw [List.length_map, rng_len] at hl
    have tb := abs_tb hi
    rw [hl] at tb
    refine qtake (cmp_of rfl rfl (eqi_b (by rw [e2]; rfl))) (seq_b (asg_b g2 rfl rfl) (ret_of (d := tbl (absM is)) ?_)) ⟨_, _, rfl, absM is, c2, rfl, rfl, hc2, tb, trivial⟩
    refine (call1 (eLc_mapM (S1 := S.set w c2) (l := is) D.int (fun a => D.tup (is.map fun b => D.int (absI (a - b)))) (srcL rfl) (by omega) fun a h1 => ⟨[some (.ref w), some (.int (n : Nat)), some (.int v), some (.lst (is.map D.int)), none, some (.int a), none], rfl, rfl, ?_⟩)).trans ?_
    · refine (call1 (eLc_mapM (S1 := S.set w c2) (l := is) D.int (fun b => D.int (absI (a - b))) (srcL rfl) (by omega) fun b h2 => ⟨[some (.ref w), some (.int (n : Nat)), some (.int v), some (.lst (is.map D.int)), none, some (.int a), some (.int b)], rfl, rfl, ?_⟩)).trans rfl
      exact (call1 (bin_b rfl rfl (sub_b rfl))).trans rfl
    · rw [tbl_abs]; rfl
  refine qskip (cmp_of rfl rfl (eqi_b (by rw [beq_eq_false_iff_ne.mpr e2]))) ?_
  obtain ⟨M, c2, g2, hc2, tb, _⟩ := ha (S.set w c1) w c1 n (hw c1) hc1 n1 n8
  rw [List.set_set] at g2
  exact qret ((fn2 rfl rfl).trans g2) ⟨_, _, rfl, M, c2, rfl, rfl, hc2, tb, trivial⟩
end G
end

section
set_option Elab.async false
set_option linter.all false
set_option maxRecDepth 100000
namespace G
open PySem PySem.Spec PyProof.Rows L2
/-! ### places of numbers -/
def ixOf (p : Int) : List Int → Nat
  | [] => 0
  | a :: r => if a = p then 0 else ixOf p r + 1
theorem ixOf_ok {p : Int} : ∀ {l : List Int}, p ∈ l → ixOf p l < l.length ∧ idxD (.int p) (l.map D.int) = some (ixOf p l)
  | [], h => by cases h
  | a :: r, h => by
    rw [List.map_cons]
    unfold ixOf idxD
    by_cases e : a = p
    · subst e
      simp [D.eqv]
    · have hr : p ∈ r := (List.mem_cons.mp h).resolve_left fun z => e z.symm
      obtain ⟨h1, h3⟩ := ixOf_ok hr
      have e1 : (a == p) = false := by simpa using e
      rw [if_neg e, h3]
      refine ⟨by simp; exact h1, ?_⟩
      simp [D.eqv, e]
theorem idx_lst {l : List Int} {p : Int} {S : Store} (h : p ∈ l) : mIndexL (.lst (l.map D.int)) [.int p] S = .ok (.int (ixOf p l : Nat)) S := by
  refine (congrFun (if_neg (fun z => Bool.false_ne_true (show false = true from z))) S).trans ?_
  unfold mIndex
  simp only [show D.its (.lst (l.map D.int)) S = some (l.map D.int) from rfl, shps_ints, D.shp, Bool.and_self, if_true, (ixOf_ok h).2]
/-! ### the first with the least score -/
def firstMin {α : Type} (s : α → Int) (x : α) (r : List α) : α := r.foldl (fun a y => if s y < s a then y else a) x
theorem firstMin_ok {α : Type} (s : α → Int) (d : α) : ∀ (r : List α) (x : α), (∀ y ∈ x :: r, s (firstMin s x r) ≤ s y) ∧ firstMin s x r ∈ x :: r ∧ (x :: r).getD (ixOf (s (firstMin s x r)) ((x :: r).map s)) d = firstMin s x r
  | [], x => by
    refine ⟨fun y hy => ?_, List.mem_cons_self, ?_⟩
    · rw [List.mem_singleton.mp hy]; exact Int.le_refl _
    · show [x].getD (ixOf (s x) [s x]) d = x
      unfold ixOf; rw [if_pos rfl]; rfl
  | y :: r, x => by
    have e : firstMin s x (y :: r) = firstMin s (if s y < s x then y else x) r := rfl
    by_cases c : s y < s x
    · rw [e, if_pos c]
      obtain ⟨h1, h2, h3⟩ := firstMin_ok s d r y
      have q := h1 y List.mem_cons_self
      refine ⟨fun z hz => ?_, List.mem_cons_of_mem _ h2, ?_⟩
      · rcases List.mem_cons.mp hz with rfl | hz
        · omega
        · exact h1 z hz
      · rw [List.map_cons]
        unfold ixOf
        rw [if_neg (by omega)]
        exact h3
    · rw [e, if_neg c]
      obtain ⟨h1, h2, h3⟩ := firstMin_ok s d r x
      have q := h1 x List.mem_cons_self
      refine ⟨fun z hz => ?_, ?_, ?_⟩
      · rcases List.mem_cons.mp hz with rfl | hz
        · exact q
        · rcases List.mem_cons.mp hz with rfl | hz
          · omega
          · exact h1 z (List.mem_cons_of_mem _ hz)
      · rcases List.mem_cons.mp h2 with h | h
        · rw [h]; exact List.mem_cons_self
        · exact List.mem_cons_of_mem _ (List.mem_cons_of_mem _ h)
      · rw [List.map_cons] at h3 ⊢
        unfold ixOf at h3 ⊢
        by_cases e1 : s x = s (firstMin s x r)
        · rw [if_pos e1] at h3 ⊢; exact h3
        · rw [if_neg e1] at h3 ⊢
          rw [List.map_cons]
          unfold ixOf
          rw [if_neg (by omega)]
          exact h3
theorem firstMin_shift {α : Type} {s t : α → Int} : ∀ {r : List α} {x : α}, (∀ a ∈ x :: r, ∀ b ∈ x :: r, (s a < s b ↔ t a < t b)) → firstMin s x r = firstMin t x r
  | [], x, _ => rfl
  | y :: r, x, h => by
    have e1 : firstMin s x (y :: r) = firstMin s (if s y < s x then y else x) r := rfl
    have e2 : firstMin t x (y :: r) = firstMin t (if t y < t x then y else x) r := rfl
    rw [e1, e2]
    by_cases c : s y < s x
    · rw [if_pos c, if_pos ((h y (by simp) x (by simp)).mp c)]
      exact firstMin_shift fun a ha b hb => h a (List.mem_cons_of_mem _ ha) b (List.mem_cons_of_mem _ hb)
    · rw [if_neg c, if_neg (fun z => c ((h y (by simp) x (by simp)).mpr z))]
      exact firstMin_shift fun a ha b hb => h a (by rcases List.mem_cons.mp ha with rfl | ha <;> simp [*]) b (by rcases List.mem_cons.mp hb with rfl | hb <;> simp [*])
theorem minI_first {α : Type} (s : α → Int) (x : α) (r : List α) : minI ((x :: r).map s) = some (s (firstMin s x r)) := by
  rw [List.map_cons]
  show some ((r.map s).foldl (fun x y => if y < x then y else x) (s x)) = _
  congr 1
  obtain ⟨h1, h2⟩ := foldmin (r.map s) (s x)
  obtain ⟨k1, k2, _⟩ := firstMin_ok s x r x
  refine Int.le_antisymm (h2 _ (by rw [← List.map_cons]; exact List.mem_map_of_mem k2)) ?_
  obtain ⟨y, hy, e⟩ := List.mem_map.mp (show _ ∈ (x :: r).map s by rw [List.map_cons]; exact h1)
  rw [← e]; exact k1 y hy
theorem maxI_first {α : Type} (s : α → Int) (x : α) (r : List α) : maxI ((x :: r).map s) = some (s (firstMin (fun p => -s p) x r)) := by
  rw [List.map_cons]
  show some ((r.map s).foldl (fun x y => if y > x then y else x) (s x)) = _
  congr 1
  obtain ⟨h1, h2⟩ := foldmax (r.map s) (s x)
  obtain ⟨k1, k2, _⟩ := firstMin_ok (fun p => -s p) x r x
  refine Int.le_antisymm ?_ (h2 _ (by rw [← List.map_cons]; exact List.mem_map_of_mem k2))
  obtain ⟨y, hy, e⟩ := List.mem_map.mp (show _ ∈ (x :: r).map s by rw [List.map_cons]; exact h1)
  rw [← e]
  have := k1 y hy
  omega
theorem ixOf_neg (p : Int) : ∀ l : List Int, ixOf (-p) (l.map fun x => -x) = ixOf p l
  | [] => rfl
  | a :: r => by
    rw [List.map_cons]
    unfold ixOf
    rw [ixOf_neg p r]
    by_cases e : a = p
    · rw [if_pos e, if_pos (by omega)]
    · rw [if_neg e, if_neg (by omega)]
theorem maxI_at {α : Type} (s : α → Int) (d : α) (x : α) (r : List α) : (x :: r).getD (ixOf (s (firstMin (fun p => -s p) x r)) ((x :: r).map s)) d = firstMin (fun p => -s p) x r := by
  have h := (firstMin_ok (fun p => -s p) d r x).2.2
  have e : (x :: r).map (fun p => -s p) = ((x :: r).map s).map fun y => -y := by rw [List.map_map]; rfl
  rw [e, ixOf_neg] at h
  exact h
/-! ### the least of things with a score -/
def scored (i : Int) (d : D) : D := .tup [.int i, d]
theorem lt_scored {i j : Int} {a b : D} (h : PySem.W.alike a.toP b.toP = true) (hl : ltD a b = false) : ltD (scored i a) (scored j b) = decide (i < j) := by
  unfold ltD scored
  show PySem.W.dataLt (.tuple [.int i, a.toP]) (.tuple [.int j, b.toP]) = _
  rw [PySem.W.dataLt_pair (show PySem.W.alike (.int i) (.int j) = true by unfold PySem.W.alike; rfl) h]
  unfold ltD at hl
  rw [hl, PySem.W.dataLt_int]
  by_cases e : i = j
  · subst e
    have : PyData.eqv (.int i) (.int i) = true := by unfold PyData.eqv; simp
    rw [if_pos this]
    simp
  · have : ¬ PyData.eqv (.int i) (.int j) = true := by unfold PyData.eqv; simpa using e
    rw [if_neg this]
/-- things in order, alike -/
structure Row {α : Type} (f : α → D) (l : List α) : Prop where
  sh : ∀ a ∈ l, D.shp 29 (f a) = true
  al : ∀ a ∈ l, ∀ b ∈ l, PySem.W.alike (f a).toP (f b).toP = true
  up : l.Pairwise fun a b => ltD (f b) (f a) = false
theorem shps_of {n : Nat} : ∀ {ds : List D}, (∀ d ∈ ds, D.shp n d = true) → D.shps n ds = true
  | [], _ => by unfold D.shps; rfl
  | d :: r, h => by
    unfold D.shps
    rw [h d List.mem_cons_self, shps_of fun x hx => h x (List.mem_cons_of_mem _ hx)]; rfl
theorem ordB_scored {α : Type} {f : α → D} {s : α → Int} {l : List α} (R : Row f l) : ordB (l.map fun a => scored (s a) (f a)) = true := by
  unfold ordB
  rw [Bool.and_eq_true, Bool.and_eq_true, List.all_eq_true, List.all_eq_true]
  refine ⟨shps_of fun d hd => ?_, fun d hd => ?_, fun d hd => ?_⟩
  · obtain ⟨a, ha, rfl⟩ := List.mem_map.mp hd
    show (true && (D.shp 29 (f a) && true)) = true
    rw [R.sh a ha]; rfl
  · obtain ⟨a, ha, rfl⟩ := List.mem_map.mp hd
    rw [List.all_eq_true]
    intro e he
    obtain ⟨b, hb, rfl⟩ := List.mem_map.mp he
    show PySem.W.alike (.tuple [.int (s a), (f a).toP]) (.tuple [.int (s b), (f b).toP]) = true
    have := R.al a ha b hb
    unfold PySem.W.alike PySem.W.alikeAll PySem.W.alikeAll PySem.W.alikeAll
    rw [this]
    have e : PySem.W.alike (.int (s a)) (.int (s b)) = true := by unfold PySem.W.alike; rfl
    rw [e]; rfl
  · obtain ⟨a, ha, rfl⟩ := List.mem_map.mp hd
    rfl
theorem least_scored {α : Type} {f : α → D} {s : α → Int} : ∀ {r : List α} {x : α}, Row f (x :: r) → (r.map fun a => scored (s a) (f a)).foldl (fun a y => if ltD y a then y else a) (scored (s x) (f x)) = scored (s (firstMin s x r)) (f (firstMin s x r))
  | [], x, _ => rfl
  | y :: r, x, R => by
    have up := List.pairwise_cons.mp R.up
    have up2 := List.pairwise_cons.mp up.2
    rw [List.map_cons, List.foldl_cons, lt_scored (R.al y (by simp) x (by simp)) (up.1 y (by simp))]
    have e : firstMin s x (y :: r) = firstMin s (if s y < s x then y else x) r := rfl
    rw [e]
    by_cases c : s y < s x
    · rw [if_pos c, if_pos (decide_eq_true c)]
      exact least_scored ⟨fun a ha => R.sh a (List.mem_cons_of_mem _ ha), fun a ha b hb => R.al a (List.mem_cons_of_mem _ ha) b (List.mem_cons_of_mem _ hb), up.2⟩
    · rw [if_neg c, if_neg (by rw [decide_eq_false c]; decide)]
      have sub : ∀ a ∈ x :: r, a ∈ x :: y :: r := fun a ha => by
        rcases List.mem_cons.mp ha with rfl | ha
        · exact List.mem_cons_self
        · exact List.mem_cons_of_mem _ (List.mem_cons_of_mem _ ha)
      exact least_scored ⟨fun a ha => R.sh a (sub a ha), fun a ha b hb => R.al a (sub a ha) b (sub b hb), List.pairwise_cons.mpr ⟨fun b hb => up.1 b (List.mem_cons_of_mem _ hb), up2.2⟩⟩
theorem min_scored {α : Type} {f : α → D} {s : α → Int} {x : α} {r : List α} {S : Store} (O : Row f (x :: r)) : fMin1 (.lst ((x :: r).map fun a => scored (s a) (f a))) S = .ok (scored (s (firstMin s x r)) (f (firstMin s x r))) S := by
  unfold fMin1
  have e1 : lstOf (.lst ((x :: r).map fun a => scored (s a) (f a))) S = some ((x :: r).map fun a => scored (s a) (f a)) := rfl
  have e2 : intsOf ((x :: r).map fun a => scored (s a) (f a)) = none := rfl
  simp only [e1, e2, ordB_scored O, if_true]
  have e3 : leastD ((x :: r).map fun a => scored (s a) (f a)) = some (scored (s (firstMin s x r)) (f (firstMin s x r))) := congrArg some (least_scored O)
  rw [e3]
mutual
theorem shp_up : ∀ {n : Nat} {d : D}, D.shp n d = true → D.shp (n + 1) d = true
  | n, .non, _ => rfl
  | n, .bl _, _ => rfl
  | n, .int _, _ => rfl
  | n, .str s, h => by unfold D.shp at h ⊢; exact h
  | 0, .tup xs, h => by unfold D.shp at h; cases h
  | 0, .lst xs, h => by unfold D.shp at h; cases h
  | n + 1, .tup xs, h => by unfold D.shp at h ⊢; exact shps_up h
  | n + 1, .lst xs, h => by unfold D.shp at h ⊢; exact shps_up h
  | n, .rol xs, h => by cases n <;> (unfold D.shp at h; cases h)
  | n, .dct _ xs, h => by cases n <;> (unfold D.shp at h; cases h)
  | n, .tpk xs, h => by cases n <;> (unfold D.shp at h; cases h)
  | n, .ref _, h => by cases n <;> (unfold D.shp at h; cases h)
theorem shps_up : ∀ {n : Nat} {ds : List D}, D.shps n ds = true → D.shps (n + 1) ds = true
  | n, [], _ => by unfold D.shps; rfl
  | n, d :: r, h => by
    unfold D.shps at h ⊢
    rw [Bool.and_eq_true] at h
    rw [shp_up h.1, shps_up h.2]; rfl
end
/-- sorted already -/
theorem sorted_row {α : Type} {f : α → D} {l : List α} {S : Store} (R : Row f l) (ne : l ≠ []) (tu : ∀ a ∈ l, ∃ x xs, f a = .tup (x :: xs)) : fSorted false (.lst (l.map f)) S = .ok (.lst (l.map f)) S := by
  unfold fSorted
  have e1 : seqOf (.lst (l.map f)) S = some (l.map f) := rfl
  have e2 : lstOf (.lst (l.map f)) S = some (l.map f) := rfl
  have e3 : intsOf (l.map f) = none := by
    cases l with
    | nil => exact absurd rfl ne
    | cons a r =>
      obtain ⟨x, xs, h⟩ := tu a List.mem_cons_self
      rw [List.map_cons, h]; rfl
  have e4 : ordB (l.map f) = true := by
    unfold ordB
    rw [Bool.and_eq_true, Bool.and_eq_true, List.all_eq_true, List.all_eq_true]
    refine ⟨shps_of fun d hd => ?_, fun d hd => ?_, fun d hd => ?_⟩
    · obtain ⟨a, ha, rfl⟩ := List.mem_map.mp hd
      exact shp_up (R.sh a ha)
    · obtain ⟨a, ha, rfl⟩ := List.mem_map.mp hd
      rw [List.all_eq_true]
      intro e he
      obtain ⟨b, hb, rfl⟩ := List.mem_map.mp he
      exact R.al a ha b hb
    · obtain ⟨a, ha, rfl⟩ := List.mem_map.mp hd
      obtain ⟨x, xs, h⟩ := tu a ha
      rw [h]
  have e5 : (l.map f).mergeSort leD = l.map f := List.mergeSort_of_pairwise (by
    rw [List.pairwise_map]
    exact R.up.imp fun {a b} h => by show (!ltD (f b) (f a)) = true; rw [h]; rfl)
  simp only [e1, e2, e3, e4, if_true, e5]
  rfl
end G
end

section
set_option Elab.async false
set_option linter.all false
set_option maxRecDepth 100000
namespace G
open PySem PySem.Spec PyProof.Rows L2
/-! ### pairings -/
abbrev Ps := List (Nat × Nat)
def pairsD (ps : Ps) : D := .tup (ps.map pairD)
def stepP (x : Ps × List Nat) : List (Ps × List Nat) := x.2.tail.map fun o => (x.1 ++ [(x.2.headD 0, o)], x.2.tail.filter fun p => !(p == o))
def foundP (n : Nat) : Nat → List (Ps × List Nat)
  | 0 => [([], List.range n)]
  | k + 1 => (foundP n k).flatMap stepP
def PL (n : Nat) : List Ps := (foundP n (n / 2)).map fun x => x.1
def okF (n : Nat) (x : Ps × List Nat) : Bool := (decide (x.1.length ≤ 4) && decide (x.2.length ≤ 8)) && x.1.all fun p => decide (p.1 < p.2) && decide (p.2 < n)
theorem found_ok : ∀ n, n ≤ 6 → ∀ k, k ≤ 3 → (foundP n k).length ≤ 200 ∧ (foundP n k).all (okF n) = true := by decide +kernel
theorem PL_ok {n : Nat} (h : n ≤ 6) : (PL n).length ≤ 200 ∧ ∀ ps ∈ PL n, ps.length ≤ 4 ∧ ∀ p ∈ ps, p.1 < p.2 ∧ p.2 < n := by
  obtain ⟨h1, h2⟩ := found_ok n h (n / 2) (by omega)
  refine ⟨by unfold PL; rw [List.length_map]; exact h1, fun ps hps => ?_⟩
  obtain ⟨x, hx, rfl⟩ := List.mem_map.mp hps
  have q := List.all_eq_true.mp h2 x hx
  unfold okF at q
  rw [Bool.and_eq_true, Bool.and_eq_true, decide_eq_true_eq, List.all_eq_true] at q
  refine ⟨q.1.1, fun p hp => ?_⟩
  have := q.2 p hp
  rw [Bool.and_eq_true, decide_eq_true_eq, decide_eq_true_eq] at this
  exact this
def rowB (l : List Ps) : Bool := (l.all fun a => D.shp 29 (pairsD a) && (l.all fun b => PySem.W.alike (pairsD a).toP (pairsD b).toP)) && decide (l.Pairwise fun a b => ltD (pairsD b) (pairsD a) = false)
theorem row_of {l : List Ps} (h : rowB l = true) : Row pairsD l := by
  unfold rowB at h
  rw [Bool.and_eq_true, decide_eq_true_eq, List.all_eq_true] at h
  have q : ∀ a ∈ l, D.shp 29 (pairsD a) = true ∧ ∀ b ∈ l, PySem.W.alike (pairsD a).toP (pairsD b).toP = true := fun a ha => by
    have := h.1 a ha
    rw [Bool.and_eq_true, List.all_eq_true] at this
    exact this
  exact ⟨fun a ha => (q a ha).1, fun a ha => (q a ha).2, h.2⟩
def Ev2 (n : Nat) : Prop := n = 2 ∨ n = 4 ∨ n = 6
theorem Ev2.le {n : Nat} (h : Ev2 n) : 2 ≤ n ∧ n ≤ 6 := by rcases h with rfl | rfl | rfl <;> decide
theorem PL_row {n : Nat} (h : Ev2 n) : Row pairsD (PL n) := by
  rcases h with rfl | rfl | rfl
  · exact row_of (by decide +kernel)
  · exact row_of (by decide +kernel)
  · exact row_of (by decide +kernel)
theorem PL_cons {n : Nat} (h : Ev2 n) : ∃ x r, PL n = x :: r ∧ ∀ ps ∈ x :: r, ps.length = n / 2 := by
  have key : ∀ l : List Ps, l ≠ [] ∧ (l.all fun ps => ps.length == n / 2) = true → ∃ x r, l = x :: r ∧ ∀ ps ∈ x :: r, ps.length = n / 2 := fun l ⟨h1, h2⟩ => by
    cases l with
    | nil => exact absurd rfl h1
    | cons x r => exact ⟨x, r, rfl, fun ps hps => by simpa using List.all_eq_true.mp h2 ps hps⟩
  rcases h with rfl | rfl | rfl
  · exact key _ (by decide +kernel)
  · exact key _ (by decide +kernel)
  · exact key _ (by decide +kernel)
theorem pairsD_bel (m : Nat) (ps : Ps) : D.bel m (pairsD ps) = true := by
  show D.bels m _ = true
  induction ps with
  | nil => rfl
  | cons a r ih => exact ih
/-! the program's -/
abbrev evenT : Sm := sRet (eBin oEq (eBin oMod (eCall (op1 fInt) (aCons (eVar 0) aNil)) (eC (D.int 2))) (eC (D.int 0)))
def EvenI (f : List D → M D) : Prop := ∀ (i : Int) (S : Store), f [.int i] S = .ok (.bl (i % 2 == 0)) S
theorem evenP {N : List Str} {frz : Bool} {Φ : Ph} (hN : ∀ x, startR N [x] = [some x]) : EvenI fun ds => runF N evenT frz Φ ds := by
  intro i S
  refine run_bl ?_
  rw [hN]
  have h1 : eCall (op1 fInt) (aCons (eVar 0) aNil) Φ [some (D.int i)] S = .ok (.int i) S := (call1 rfl).trans rfl
  exact ret_of (bin_b (bin_b h1 rfl (mod_ok (j := 2) (by decide) S)) rfl (eqi_b rfl))
abbrev withPairT : Sm :=
    (sRet
      (eTup
        (aCons
          (eTup (aStar (eVar 0) (aCons (eTup (aCons (eBin oIx (eVar 1) (eC (D.int 0))) (aCons (eVar 2) aNil)) 0) aNil))
            0)
          (aCons
            (eLc false (fun Φ ρ => (eSl false (eVar 1) (vSo (eC (D.int 1))) vNo Φ ρ).bind srcOf) (gNm 3)
              (tCmp oNe (eVar 3) (eVar 2)) (eVar 3) [3])
            aNil))
        0))
def leftL (l : List Nat) : D := .lst (natsD l)
def leftT (l : List Nat) : D := .tup (natsD l)
def itemP (x : Ps × List Nat) : D := .tup [pairsD x.1, leftL x.2]
def itemL (x : Ps × List Nat) : D := .tup [pairsD x.1, leftT x.2]
def nextP (x : Ps × List Nat) (o : Nat) : Ps × List Nat := (x.1 ++ [(x.2.headD 0, o)], x.2.tail.filter fun p => !(p == o))
def WithPair (f : List D → M D) : Prop := ∀ (ps : Ps) (l : List Nat) (o : Nat) (S : Store), l ≠ [] → ps.length ≤ 1000 → l.length ≤ 1000 → f [pairsD ps, leftL l, .int (o : Nat)] S = .ok (itemP (nextP (ps, l) o)) S
theorem tail_cut (l : List Nat) : cutD (natsD l) (some 1) none = natsD l.tail := by
  refine (cut_lo (natsD l) 1).trans ?_
  cases l <;> rfl
theorem item_bel (m : Nat) (x : Ps × List Nat) : D.bel m (itemP x) = true := by
  show (D.bel m (pairsD x.1) && (D.bels m (natsD x.2) && true)) = true
  rw [pairsD_bel, bels_nats]; rfl
theorem itemL_bel (m : Nat) (x : Ps × List Nat) : D.bel m (itemL x) = true := by
  show (D.bel m (pairsD x.1) && (D.bels m (natsD x.2) && true)) = true
  rw [pairsD_bel, bels_nats]; rfl
theorem star_of {e : Ev} {r : Ph → Ro → M (List D)} {Φ : Ph} {ρ : Ro} {S S1 S2 : Store} {d : D} {xs ds : List D} (h : e Φ ρ S = .ok d S1) (hs : seqOf d S1 = some xs) (h2 : r Φ ρ S1 = .ok ds S2) : aStar e r Φ ρ S = .ok (xs ++ ds) S2 := by
  unfold aStar
  rw [bind_of h]
  show (match seqOf d S1 with | some xs => ((r Φ ρ).bind fun ds => M.ok (xs ++ ds)) S1 | none => .bad) = _
  rw [hs]
  show ((r Φ ρ).bind fun ds => M.ok (xs ++ ds)) S1 = _
  rw [bind_of h2]; rfl
theorem withPairP {N : List Str} {frz : Bool} {Φ : Ph} (hN : ∀ x y z, startR N [x, y, z] = [some x, some y, some z, none]) : WithPair fun ds => runF N withPairT frz Φ ds := by
  intro ps l o S ne hp hl
  refine run_pl ?_ (item_bel _ _)
  rw [hN]
  obtain ⟨a, r, rfl⟩ : ∃ a r, l = a :: r := by cases l with
    | nil => exact absurd rfl ne
    | cons a r => exact ⟨a, r, rfl⟩
  have q1 : eTup (aStar (eVar 0) (aCons (eTup (aCons (eBin oIx (eVar 1) (eC (D.int 0))) (aCons (eVar 2) aNil)) 0) aNil)) 0 Φ [some (pairsD ps), some (leftL (a :: r)), some (.int (o : Nat)), none] S = .ok (pairsD (ps ++ [(a, o)])) S := by
    refine (tup_of (S1 := S) (ds := ps.map pairD ++ [pairD (a, o)]) (star_of rfl rfl (args1 (tup_of (args2 (bin_b (y := .int (0 : Nat)) rfl rfl (oIx_of (xs := natsD (a :: r)) rfl (atI_nat (natsD (a :: r)) 0 (by show 0 < (r.map _).length + 1; exact Nat.zero_lt_succ _)))) rfl) (by simp)))) ?_).trans ?_
    · rw [List.length_append, List.length_map]; simp; omega
    · unfold pairsD; rw [List.map_append]; rfl
  have q2 : eLc false (fun Φ ρ => (eSl false (eVar 1) (vSo (eC (D.int 1))) vNo Φ ρ).bind srcOf) (gNm 3)
              (tCmp oNe (eVar 3) (eVar 2)) (eVar 3) [3] Φ [some (pairsD ps), some (leftL (a :: r)), some (.int (o : Nat)), none] S = .ok (leftL (r.filter fun p => !(p == o))) S := by
    refine eLc_filtM (S1 := S) (l := r) (fun i => D.int (i : Nat)) (fun p => !(p == o)) (fun i => D.int (i : Nat)) (srcL ((sl_of rfl (so_of rfl) rfl).trans (oSlL.trans (by rw [tail_cut]; rfl)))) (by simp at hl; omega) fun i hi => ⟨[some (pairsD ps), some (leftL (a :: r)), some (.int (o : Nat)), some (.int (i : Nat))], rfl, cmp_of rfl rfl (nei_b ?_), fun _ => rfl⟩
    have e : (((i : Nat) : Int) == ((o : Nat) : Int)) = (i == o) := by
      rw [Bool.eq_iff_iff, beq_iff_eq, beq_iff_eq]; omega
    rw [e]
  exact ret_of (tup_of (args2 q1 q2) (by simp))
abbrev pairingsT (jw : Nat) : Sm :=
    (sSeq
      (sAsg
        (eLst false
          (aCons (eTup (aCons (eTup aNil 0) (aCons (eCall (op1 (fList false)) (aCons (eVar 0) aNil)) aNil)) 0) aNil))
        (gmN (gNm 1)))
      (sSeq
        (sFor (vSrc sRng (aCons (eBin oFdiv (eCall (op1 fLen) (aCons (eVar 0) aNil)) (eC (D.int 2))) aNil))
          (gmN (gNm 2))
          (sAsg
            (eLc2 false (fun Φ ρ => (eVar 1 Φ ρ).bind srcOf)
              (gTu [3, 4])
              vYes (fun Φ ρ => (eSl false (eVar 4) (vSo (eC (D.int 1))) vNo Φ ρ).bind srcOf) [5] (gNm 5) vYes
              (eFn jw (aCons (eVar 3) (aCons (eVar 4) (aCons (eVar 5) aNil))))
              [3, 4, 5])
            (gmN (gNm 1))))
        (sRet
          (eLc false (fun Φ ρ => (eVar 1 Φ ρ).bind srcOf)
            (gTu [3, 2])
            vYes (eVar 3) [3, 2]))))
def PairingsOf (f : List D → M D) : Prop := ∀ (n : Nat) (S : Store), n ≤ 6 → f [.lst (rngD 0 n)] S = .ok (.lst ((PL n).map pairsD)) S
theorem rngD_nats (n : Nat) : rngD 0 n = natsD (List.range n) := rngD_map n
theorem pl_bels (m : Nat) (l : List Ps) : D.bels m (l.map pairsD) = true := by
  induction l with
  | nil => rfl
  | cons a r ih =>
    show (D.bel m (pairsD a) && D.bels m _) = true
    rw [pairsD_bel]; exact ih
theorem half_of (n : Nat) (S : Store) : oFdiv (.int (n : Nat)) (.int 2) S = .ok (.int (n / 2 : Nat)) S := by
  rw [fdiv_ok (by decide) (by decide)]
  congr 2
theorem pairingsP {N : List Str} {Φ : Ph} {jw : Nat} (h : WithPair (Φ jw)) (hN : ∀ x, startR N [x] = [some x, none, none, none, none, none]) : PairingsOf fun ds => runF N (pairingsT jw) false Φ ds := by
  intro n S n6
  have e0 : [D.tup [.tup [], .lst (rngD 0 n)]] = (foundP n 0).map itemP := by
    show _ = [itemP ([], List.range n)]
    rw [rngD_nats]; rfl
  obtain ⟨ρ', S', hf, rfl, x2, rfl⟩ := sFor_rng (Φ := Φ) (lo := 0) (n := n / 2) (gm := gmN (gNm 2)) (sv := vSrc sRng (aCons (eBin oFdiv (eCall (op1 fLen) (aCons (eVar 0) aNil)) (eC (D.int 2))) aNil)) (ρ := [some (.lst (rngD 0 n)), some (.lst ((foundP n 0).map itemP)), none, none, none, none]) (S := S)
    (b := sAsg
            (eLc2 false (fun Φ ρ => (eVar 1 Φ ρ).bind srcOf)
              (gTu [3, 4])
              vYes (fun Φ ρ => (eSl false (eVar 4) (vSo (eC (D.int 1))) vNo Φ ρ).bind srcOf) [5] (gNm 5) vYes
              (eFn jw (aCons (eVar 3) (aCons (eVar 4) (aCons (eVar 5) aNil))))
              [3, 4, 5])
            (gmN (gNm 1)))
    (src_rng (n := n / 2) ((bin_of ((call1 rfl).trans (fLen_of rfl)) rfl).trans (by rw [rng_len]; exact half_of n S)) (by omega))
    (fun i ρ S' => S' = S ∧ ∃ x2 : Option D, ρ = [some (.lst (rngD 0 n)), some (.lst ((foundP n i).map itemP)), x2, none, none, none]) ⟨rfl, none, rfl⟩ (by
      rintro i ρ S' hi ⟨rfl, x2, rfl⟩
      refine ⟨_, S', _, S', rfl, .inl (asg_of (d := .lst ((foundP n (i + 1)).map itemP)) ?_), rfl, some (.int (0 + (i : Nat))), rfl⟩
      have e : (foundP n (i + 1)).map itemP = (foundP n i).flatMap fun x => (x.2.tail.filter fun _ => true).map fun o => itemP (nextP x o) := by
        show ((foundP n i).flatMap stepP).map itemP = _
        rw [List.map_flatMap]
        congr 1
        funext x
        rw [List.filter_eq_self.mpr fun _ _ => rfl]
        unfold stepP
        rw [List.map_map]; rfl
      obtain ⟨b1, b2⟩ := found_ok n n6 i (by omega)
      obtain ⟨b3, _⟩ := found_ok n n6 (i + 1) (by omega)
      rw [e]
      refine eLc2_mapM (S1 := S') (l := foundP n i) itemP (fun x => x.2.tail) (fun _ o => D.int (o : Nat)) (fun _ _ => true) (fun x o => itemP (nextP x o)) (srcL rfl) (by rw [← e, List.length_map]; omega) fun x hx => ⟨[some (.lst (rngD 0 n)), some (.lst ((foundP n i).map itemP)), some (.int (0 + (i : Nat))), some (pairsD x.1), some (leftL x.2), none], rfl, rfl, ?_, fun o ho => ⟨[some (.lst (rngD 0 n)), some (.lst ((foundP n i).map itemP)), some (.int (0 + (i : Nat))), some (pairsD x.1), some (leftL x.2), some (.int (o : Nat))], rfl, rfl, fun _ => ?_⟩⟩
      · exact srcL ((sl_of rfl (so_of rfl) rfl).trans (oSlL.trans (by rw [tail_cut]; rfl)))
      · have q := List.all_eq_true.mp b2 x hx
        unfold okF at q
        rw [Bool.and_eq_true, Bool.and_eq_true, decide_eq_true_eq, decide_eq_true_eq] at q
        refine (fn3 rfl rfl rfl).trans (h x.1 x.2 o S' ?_ (by omega) (by omega))
        intro z; rw [z] at ho; cases ho)
  refine run_pl ?_ (pl_bels _ _)
  rw [hN]
  refine seq_b (asg_b (d := .lst ((foundP n 0).map itemP)) (S1 := S') (by rw [← e0]; rfl) rfl rfl) (seq_b hf (ret_of ?_))
  have e : (PL n).map pairsD = (foundP n (n / 2)).map fun x => pairsD x.1 := by unfold PL; rw [List.map_map]; rfl
  rw [e]
  obtain ⟨b1, b2⟩ := found_ok n n6 (n / 2) (by omega)
  exact eLc_mapM (S1 := S') (l := foundP n (n / 2)) itemP (fun x => pairsD x.1) (srcL rfl) (by omega) fun x hx => ⟨[some (.lst (rngD 0 n)), some (.lst ((foundP n (n / 2)).map itemP)), some (leftL x.2), some (pairsD x.1), none, none], rfl, rfl, rfl⟩
abbrev sumPairsT : Sm :=
    (sRet
      (eCall (op1 fSum)
        (aCons
          (eLc false (fun Φ ρ => (eVar 1 Φ ρ).bind srcOf)
            (gTu [2, 3])
            vYes (eBin oIx (eBin oIx (eVar 0) (eVar 2)) (eVar 3))
            [2, 3])
          aNil)))
def psum (M : Mx) (ps : Ps) : Int := (ps.map fun p => getM M p.1 p.2).sum
def SumPairs (f : List D → M D) : Prop := ∀ (n : Nat) (M : Mx) (ps : Ps) (S : Store), Sq n M → ps.length ≤ 1000 → (∀ p ∈ ps, p.1 < n ∧ p.2 < n) → f [tbl M, pairsD ps] S = .ok (.int (psum M ps)) S
theorem sum_lst {ns : List Int} {S : Store} : fSum (.lst (ns.map D.int)) S = .ok (.int ns.sum) S := by
  unfold fSum
  simp only [show lstOf (.lst (ns.map D.int)) S = some (ns.map D.int) from rfl, intsOf_map]
theorem sumPairsP {N : List Str} {frz : Bool} {Φ : Ph} (hN : ∀ x y, startR N [x, y] = [some x, some y, none, none]) : SumPairs fun ds => runF N sumPairsT frz Φ ds := by
  intro n M ps S sq hl hp
  refine run_pl ?_ rfl
  rw [hN]
  refine ret_of ((call1 (eLc_mapM (S1 := S) (l := ps) pairD (fun p => D.int (getM M p.1 p.2)) (srcT rfl) (by omega) fun p h1 => ⟨[some (tbl M), some (pairsD ps), some (.int (p.1 : Nat)), some (.int (p.2 : Nat))], rfl, rfl, tix sq rfl rfl rfl (hp p h1).1 (hp p h1).2⟩)).trans ?_)
  have e : (ps.map fun p => D.int (getM M p.1 p.2)) = (ps.map fun p => getM M p.1 p.2).map D.int := by rw [List.map_map]; rfl
  rw [e, sum_lst]; rfl
/-! the farthest, the nearest -/
def bestP (n : Nat) (s : Ps → Int) : Ps := match PL n with
  | [] => []
  | x :: r => firstMin s x r
def farP (n : Nat) (M : Mx) : Ps := bestP n fun p => -psum M p
def nearP (n : Nat) (M : Mx) : Ps := bestP n fun p => psum M p
def TabTo (f : List D → M D) (g : Nat → Mx → D) : Prop := ∀ (n : Nat) (M : Mx) (S : Store), TbI n M → Ev2 n → f [tbl M] S = .ok (g n M) S
theorem scored_bel (m : Nat) (i : Int) (ps : Ps) : D.bel m (scored i (pairsD ps)) = true := by
  show (true && (D.bel m (pairsD ps) && true)) = true
  rw [pairsD_bel]; rfl
abbrev farT (jp jl js : Nat) : Sm :=
    (sSeq
      (sAsg
        (eCall (op1 fMin1)
          (aCons
            (eLc false (fun Φ ρ => (eFn jp (aCons (eFn jl (aCons (eVar 0) aNil)) aNil) Φ ρ).bind srcOf) (gNm 3) vYes
              (eTup (aCons (eUn uNeg (eFn js (aCons (eVar 0) (aCons (eVar 3) aNil)))) (aCons (eVar 3) aNil)) 0)
              [3])
            aNil))
        (gmTup (gsCons (gmN (gNm 1)) (gsCons (gmN (gNm 2)) gsNil))))
      (sRet (eTup (aCons (eUn uNeg (eVar 1)) (aCons (eVar 2) aNil)) 0)))
theorem tbl_seq (M : Mx) (S : Store) : seqOf (tbl M) S = some (M.map fun r => D.tup (r.map D.int)) := rfl
theorem places_tbl {f : List D → M D} (h : PlacesOf f) {n : Nat} {M : Mx} {S : Store} (sq : Sq n M) (hn : n ≤ 1000) : f [tbl M] S = .ok (.lst (rngD 0 n)) S := by
  have := h (tbl M) _ S (tbl_seq M S) (by rw [List.length_map, sq.1]; exact hn)
  rw [List.length_map, sq.1] at this
  exact this
theorem farPP {N : List Str} {frz : Bool} {Φ : Ph} {jp jl js : Nat} (hp : PairingsOf (Φ jp)) (hl : PlacesOf (Φ jl)) (hs : SumPairs (Φ js)) (hN : ∀ x, startR N [x] = [some x, none, none, none]) : TabTo (fun ds => runF N (farT jp jl js) frz Φ ds) fun n M => scored (psum M (farP n M)) (pairsD (farP n M)) := by
  intro n M S tb ev
  have n6 := ev.le
  refine run_pl ?_ (scored_bel _ _ _)
  rw [hN]
  obtain ⟨x, r, e, _⟩ := PL_cons ev
  have R := PL_row ev
  obtain ⟨k1, k2⟩ := PL_ok n6.2
  rw [e] at R k1 k2
  have q1 : eLc false (fun Φ ρ => (eFn jp (aCons (eFn jl (aCons (eVar 0) aNil)) aNil) Φ ρ).bind srcOf) (gNm 3) vYes
              (eTup (aCons (eUn uNeg (eFn js (aCons (eVar 0) (aCons (eVar 3) aNil)))) (aCons (eVar 3) aNil)) 0)
              [3] Φ [some (tbl M), none, none, none] S = .ok (.lst ((x :: r).map fun p => scored (-psum M p) (pairsD p))) S := by
    refine eLc_mapM (S1 := S) (l := x :: r) pairsD (fun p => scored (-psum M p) (pairsD p)) (srcL ((fn1 ((fn1 rfl).trans (places_tbl hl tb.sq (by omega)))).trans ((hp n S n6.2).trans (by rw [e])))) (by omega) fun p h1 => ⟨[some (tbl M), none, none, some (pairsD p)], rfl, rfl, ?_⟩
    obtain ⟨k3, k4⟩ := k2 p h1
    exact tup_of (args2 (un_b ((fn2 rfl rfl).trans (hs n M p S tb.sq (by omega) fun z hz => by have := k4 z hz; omega)) rfl) rfl) (by simp)
  have ef : farP n M = firstMin (fun p => -psum M p) x r := by unfold farP bestP; rw [e]
  refine seq_b (asgG_b (d := scored (-psum M (farP n M)) (pairsD (farP n M))) (S1 := S) (S2 := S) ((call1 q1).trans ?_) rfl rfl) (ret_of ?_)
  · rw [ef]; exact min_scored R
  · refine (tup_of (S1 := S) (ds := [.int (-(-psum M (farP n M))), pairsD (farP n M)]) (args2 rfl rfl) (by simp)).trans ?_
    rw [Int.neg_neg]; rfl
abbrev nearT (jp jl js : Nat) : Sm :=
    (sRet
      (eCall (op1 fMin1)
        (aCons
          (eLc false (fun Φ ρ => (eFn jp (aCons (eFn jl (aCons (eVar 0) aNil)) aNil) Φ ρ).bind srcOf) (gNm 1) vYes
            (eTup (aCons (eFn js (aCons (eVar 0) (aCons (eVar 1) aNil))) (aCons (eVar 1) aNil)) 0)
            [1])
          aNil)))
theorem nearPP {N : List Str} {frz : Bool} {Φ : Ph} {jp jl js : Nat} (hp : PairingsOf (Φ jp)) (hl : PlacesOf (Φ jl)) (hs : SumPairs (Φ js)) (hN : ∀ x, startR N [x] = [some x, none]) : TabTo (fun ds => runF N (nearT jp jl js) frz Φ ds) fun n M => scored (psum M (nearP n M)) (pairsD (nearP n M)) := by
  intro n M S tb ev
  have n6 := ev.le
  refine run_pl ?_ (scored_bel _ _ _)
  rw [hN]
  obtain ⟨x, r, e, _⟩ := PL_cons ev
  have R := PL_row ev
  obtain ⟨k1, k2⟩ := PL_ok n6.2
  rw [e] at R k1 k2
  have q1 : eLc false (fun Φ ρ => (eFn jp (aCons (eFn jl (aCons (eVar 0) aNil)) aNil) Φ ρ).bind srcOf) (gNm 1) vYes
              (eTup (aCons (eFn js (aCons (eVar 0) (aCons (eVar 1) aNil))) (aCons (eVar 1) aNil)) 0)
              [1] Φ [some (tbl M), none] S = .ok (.lst ((x :: r).map fun p => scored (psum M p) (pairsD p))) S := by
    refine eLc_mapM (S1 := S) (l := x :: r) pairsD (fun p => scored (psum M p) (pairsD p)) (srcL ((fn1 ((fn1 rfl).trans (places_tbl hl tb.sq (by omega)))).trans ((hp n S n6.2).trans (by rw [e])))) (by omega) fun p h1 => ⟨[some (tbl M), some (pairsD p)], rfl, rfl, ?_⟩
    obtain ⟨k3, k4⟩ := k2 p h1
    exact tup_of (args2 ((fn2 rfl rfl).trans (hs n M p S tb.sq (by omega) fun z hz => by have := k4 z hz; omega)) rfl) (by simp)
  have ef : nearP n M = firstMin (fun p => psum M p) x r := by unfold nearP bestP; rw [e]
  refine ret_of ((call1 q1).trans ?_)
  show fMin1 _ S = .ok (scored (psum M (nearP n M)) (pairsD (nearP n M))) S
  rw [ef]; exact min_scored R
abbrev ix1T (j : Nat) (i : Int) : Sm := (sRet (eBin oIx (eFn j (aCons (eVar 0) aNil)) (eC (D.int i))))
theorem ix0P {N : List Str} {frz : Bool} {Φ : Ph} {j : Nat} {s : Nat → Mx → Int} {p : Nat → Mx → Ps} (h : TabTo (Φ j) fun n M => scored (s n M) (pairsD (p n M))) (hN : ∀ x, startR N [x] = [some x]) : TabTo (fun ds => runF N (ix1T j 0) frz Φ ds) fun n M => .int (s n M) := by
  intro n M S tb ev
  refine run_pl ?_ rfl
  rw [hN]
  exact ret_of (bin_b (y := .int (0 : Nat)) ((fn1 rfl).trans (h n M S tb ev)) rfl (oIx_of rfl rfl))
theorem ix1P {N : List Str} {frz : Bool} {Φ : Ph} {j : Nat} {s : Nat → Mx → Int} {p : Nat → Mx → Ps} (h : TabTo (Φ j) fun n M => scored (s n M) (pairsD (p n M))) (hN : ∀ x, startR N [x] = [some x]) : TabTo (fun ds => runF N (ix1T j 1) frz Φ ds) fun n M => pairsD (p n M) := by
  intro n M S tb ev
  refine run_pl ?_ (pairsD_bel _ _)
  rw [hN]
  exact ret_of (bin_b (y := .int (1 : Nat)) ((fn1 rfl).trans (h n M S tb ev)) rfl (oIx_of rfl rfl))
abbrev chkEvT (jc je : Nat) : Sm :=
    (sSeq (sDrop (eFn jc (aCons (eVar 0) aNil)))
      (sIf (vNot (tvOf (eFn je (aCons (eCall (op1 fLen) (aCons (eVar 0) aNil)) aNil)))) sBad sNx))
theorem Ev2.even {n : Nat} (h : Ev2 n) : (((n : Nat) : Int) % 2 == 0) = true := by rcases h with rfl | rfl | rfl <;> decide
theorem chkEvP {N : List Str} {frz : Bool} {Φ : Ph} {jc je : Nat} (h1 : ChkTab (Φ jc)) (h2 : EvenI (Φ je)) (hN : ∀ x, startR N [x] = [some x]) : TabTo (fun ds => runF N (chkEvT jc je) frz Φ ds) fun _ _ => .non := by
  intro n M S tb ev
  have n6 := ev.le
  refine run_nx (ρ := [some (tbl M)]) ?_
  rw [hN]
  refine seq_b (drop_of ((fn1 rfl).trans (h1 n M S tb (by omega) (by omega)))) ?_
  exact (sif_f (vnot_of (p := true) (tv_of ((fn1 ((call1 rfl).trans (tbl_len tb.sq))).trans ((h2 _ S).trans (by rw [ev.even])))))).trans rfl
theorem chkToP {N : List Str} {frz : Bool} {Φ : Ph} {jc jf : Nat} {g : Nat → Mx → D} (h1 : TabTo (Φ jc) fun _ _ => .non) (h2 : TabTo (Φ jf) g) (hb : ∀ m n M, D.bel m (g n M) = true) (hN : ∀ x, startR N [x] = [some x]) : TabTo (fun ds => runF N (chkFnT jc jf) frz Φ ds) g := by
  intro n M S tb ev
  refine run_pl ?_ (hb _ _ _)
  rw [hN]
  exact seq_b (drop_of ((fn1 rfl).trans (h1 n M S tb ev))) (ret_of ((fn1 rfl).trans (h2 n M S tb ev)))
end G
end

section
set_option Elab.async false
set_option linter.all false
set_option maxRecDepth 100000
namespace G
open PySem PySem.Spec PyProof.Rows L2
/-! ### lists that stand in a cell, or do not -/
def HasL (d : D) (S : Store) (xs : List D) : Prop := d = .lst xs ∨ ∃ m, d = .ref m ∧ S[m]? = some (.lst xs)
theorem HasL.seq {d : D} {S : Store} {xs : List D} (h : HasL d S xs) : seqOf d S = some xs := by
  rcases h with rfl | ⟨m, rfl, h⟩
  · rfl
  · exact seq_cell h
theorem HasL.app {d : D} {S : Store} {xs : List D} {B : Store} (h : HasL d S xs) : HasL d (S ++ B) xs := by
  rcases h with rfl | ⟨m, rfl, h⟩
  · exact .inl rfl
  · exact .inr ⟨m, rfl, get_app h⟩
theorem rdC_ok {m i : Nat} {xs : List D} {S : Store} (h : S[m]? = some (.lst xs)) (hi : i < xs.length) : rdC m xs.length i S = .ok xs[i] S := by
  unfold rdC
  simp only [h, if_true, List.getElem?_eq_getElem hi]
theorem finC_ok {m : Nat} {xs : List D} {S : Store} (h : S[m]? = some (.lst xs)) : finC m xs.length S = .ok () S := by
  unfold finC
  simp only [h, if_true]
theorem forS_cell {gm : D → Ro → M Ro} {body : Ro → Store → Rs} {m : Nat} {xs : List D} (Inv : List D → Ro → Store → Prop) (keep : ∀ r ρ S, Inv r ρ S → S[m]? = some (.lst xs))
    (h : ∀ x r ρ S, Inv (x :: r) ρ S → ∃ ρ1 S1, gm x ρ S = .ok ρ1 S1 ∧ Nx (Inv r) (body ρ1 S1)) :
    ∀ (k i : Nat) (ρ : Ro) (S : Store), i + k = xs.length → Inv (xs.drop i) ρ S → ∃ ρ' S', forS (finC m xs.length) gm body ((List.range' i k).map (rdC m xs.length)) ρ S = .nx ρ' S' ∧ Inv [] ρ' S' := by
  intro k
  induction k with
  | zero =>
    intro i ρ S e iv
    rw [List.drop_of_length_le (by omega)] at iv
    refine ⟨ρ, S, ?_, iv⟩
    show (finC m xs.length).to (fun _ S => Rs.nx ρ S) S = _
    rw [to_of (finC_ok (keep _ _ _ iv))]
  | succ k ih =>
    intro i ρ S e iv
    have hi : i < xs.length := by omega
    have hk := keep _ _ _ iv
    rw [List.drop_eq_getElem_cons hi] at iv
    obtain ⟨ρ1, S1, h1, ρ2, S2, h2, h3⟩ := h _ _ _ _ iv
    obtain ⟨ρ', S', k1, k2⟩ := ih (i + 1) ρ2 S2 (by omega) h3
    refine ⟨ρ', S', ?_, k2⟩
    rw [List.range'_succ, List.map_cons]
    unfold forS
    rw [to_of (rdC_ok hk hi), to_of h1]
    rcases h2 with h2 | h2 <;> (rw [h2]; exact k1)
theorem qloopH {Q : Rs → Prop} {Φ : Ph} {ρ : Ro} {S : Store} {b : Sm} {a : Ev} {gm : Gm} {body : Sm} {d : D} {xs : List D} (hs : a Φ ρ S = .ok d S) (Inv : List D → Ro → Store → Prop) (keep : ∀ r ρ S, Inv r ρ S → HasL d S xs) (h0 : Inv xs ρ S)
    (h : ∀ x r ρ S, Inv (x :: r) ρ S → ∃ ρ1 S1, gm Φ x ρ S = .ok ρ1 S1 ∧ Nx (Inv r) (body Φ ρ1 S1)) (k : ∀ ρ' S', Inv [] ρ' S' → Q (b Φ ρ' S')) : Q (sSeq (sFor (fun Φ ρ => (a Φ ρ).bind srcOf) gm body) b Φ ρ S) := by
  rcases keep _ _ _ h0 with rfl | ⟨m, rfl, hm⟩
  · exact qloop (srcL hs) Inv h0 h k
  · have keep' : ∀ r ρ S, Inv r ρ S → S[m]? = some (.lst xs) := fun r ρ S iv => by
      rcases keep r ρ S iv with e | ⟨m', e, h⟩
      · cases e
      · cases e; exact h
    obtain ⟨ρ', S', h1, h2⟩ := forS_cell (gm := gm Φ) (body := body Φ) Inv keep' h xs.length 0 ρ S (by omega) h0
    refine qseq ?_ (k ρ' S' h2)
    unfold sFor
    rw [to_of (show ((fun Φ ρ => (a Φ ρ).bind srcOf : Sv) Φ ρ S) = .ok (cellS m xs.length) S from (src_of hs).trans (by unfold srcOf; simp only [hm]))]
    show forS (finC m xs.length) (gm Φ) (body Φ) ((List.range xs.length).map (rdC m xs.length)) ρ S = _
    rw [List.range_eq_range']; exact h1
theorem lc1_cell {α : Type} {gv : Gv} {t : Ro → M Bool} {e : Ro → M D} {ρ : Ro} {S : Store} {m : Nat} {xs : List D} (hm : S[m]? = some (.lst xs)) (g : α → D) (f : α → D) : ∀ {l : List α} {i : Nat}, xs.drop i = l.map g → (∀ x ∈ l, ∃ ρ1, gv (g x) ρ = some ρ1 ∧ t ρ1 S = .ok true S ∧ e ρ1 S = .ok (f x) S) →
    lc1 (finC m xs.length) gv t e ρ ((List.range' i l.length).map (rdC m xs.length)) S = .ok (l.map f) S
  | [], i, _, _ => by
    show M.bind (finC m xs.length) _ S = _
    rw [bind_of (finC_ok hm)]; rfl
  | x :: r, i, hd, h => by
    obtain ⟨ρ1, h1, h2, h3⟩ := h x List.mem_cons_self
    have hi : i < xs.length := by
      refine Nat.lt_of_not_le fun z => ?_
      rw [List.drop_of_length_le z] at hd; cases hd
    rw [List.drop_eq_getElem_cons hi, List.map_cons] at hd
    injection hd with d1 d2
    have ih := lc1_cell hm g f (i := i + 1) d2 fun y hy => h y (List.mem_cons_of_mem _ hy)
    rw [List.length_cons, List.range'_succ, List.map_cons]
    unfold lc1
    rw [bind_of (rdC_ok hm hi), d1, bind_of (show tgM gv (g x) ρ S = .ok ρ1 S by unfold tgM; rw [h1]), bind_of h2]
    show M.bind (e ρ1) _ S = _
    rw [bind_of h3, bind_of ih]
    rfl
theorem eLc_mapH {α : Type} {a : Ev} {gv : Gv} {tv : Tv} {ev : Ev} {vs : List Nat} {Φ : Ph} {ρ : Ro} {S : Store} {d : D} {l : List α} (g : α → D) (f : α → D) (hs : a Φ ρ S = .ok d S) (hl : HasL d S (l.map g)) (hz : l.length ≤ 16777216) (h : ∀ x ∈ l, ∃ ρ1, gv (g x) (wipeR ρ vs) = some ρ1 ∧ tv Φ ρ1 S = .ok true S ∧ ev Φ ρ1 S = .ok (f x) S) :
    eLc false (fun Φ ρ => (a Φ ρ).bind srcOf) gv tv ev vs Φ ρ S = .ok (.lst (l.map f)) S := by
  rcases hl with rfl | ⟨m, rfl, hm⟩
  · exact eLc_mapM g f (srcL hs) hz h
  · unfold eLc
    rw [bind_of (show ((fun Φ ρ => (a Φ ρ).bind srcOf : Sv) Φ ρ S) = .ok (cellS m (l.map g).length) S from (src_of hs).trans (by unfold srcOf; simp only [hm]))]
    show M.bind (lc1 (finC m (l.map g).length) gv (tv Φ) (ev Φ) (wipeR ρ vs) ((List.range (l.map g).length).map (rdC m (l.map g).length))) (lcF false) S = _
    have q := lc1_cell (gv := gv) (t := tv Φ) (e := ev Φ) (ρ := wipeR ρ vs) hm g f (l := l) (i := 0) rfl h
    have el : (l.map g).length = l.length := List.length_map _
    rw [List.range_eq_range', show List.range' 0 (l.map g).length = List.range' 0 l.length by rw [el], bind_of q]
    unfold lcF
    rw [if_pos (by rw [List.length_map]; exact hz)]
    rfl
/-! ### the law's pairings -/
abbrev lawPairsT : Sm :=
    (sSeq
      (sAsg
        (eLst false (aCons (eTup (aCons (eTup aNil 0) (aCons (eCall (op1 fTuple) (aCons (eVar 0) aNil)) aNil)) 0) aNil))
        (gmN (gNm 1)))
      (sSeq
        (sFor (vSrc sRng (aCons (eBin oFdiv (eCall (op1 fLen) (aCons (eVar 0) aNil)) (eC (D.int 2))) aNil))
          (gmN (gNm 2))
          (sSeq (sAsg (eLst true aNil) (gmN (gNm 3)))
            (sSeq
              (sFor (fun Φ ρ => (eVar 1 Φ ρ).bind srcOf) (gmTup (gsCons (gmN (gNm 4)) (gsCons (gmN (gNm 5)) gsNil)))
                (sFor (fun Φ ρ => (eSl false (eVar 5) (vSo (eC (D.int 1))) vNo Φ ρ).bind srcOf) (gmN (gNm 6))
                  (sDrop
                    (eMt mAppend opNone (eVar 3)
                      (aCons
                        (eTup
                          (aCons
                            (eBin oAdd (eVar 4)
                              (eTup
                                (aCons (eTup (aCons (eBin oIx (eVar 5) (eC (D.int 0))) (aCons (eVar 6) aNil)) 0) aNil)
                                0))
                            (aCons
                              (eCall (op1 fTuple)
                                (aCons
                                  (eLc false (fun Φ ρ => (eSl false (eVar 5) (vSo (eC (D.int 1))) vNo Φ ρ).bind srcOf)
                                    (gNm 7) (tCmp oNe (eVar 7) (eVar 6)) (eVar 7)
                                    [7])
                                  aNil))
                              aNil))
                          0)
                        aNil)))))
              (sAsg (eVar 3) (gmN (gNm 1))))))
        (sRet
          (eCall (op1 (fSorted false))
            (aCons
              (eLc false (fun Φ ρ => (eVar 1 Φ ρ).bind srcOf)
                (gTu [4, 5])
                vYes (eVar 4)
                [4, 5])
              aNil)))))
def LawPairs (f : List D → M D) : Prop := ∀ (n : Nat) (S : Store), Ev2 n → f [leftT (List.range n)] S = .ok (.lst ((PL n).map pairsD)) S
theorem PL_tu {n : Nat} (h : Ev2 n) : ∀ a ∈ PL n, ∃ x xs, pairsD a = .tup (x :: xs) := by
  have key : ∀ l : List Ps, (l.all fun a => !a.isEmpty) = true → ∀ a ∈ l, ∃ x xs, pairsD a = .tup (x :: xs) := fun l q a ha => by
    have := List.all_eq_true.mp q a ha
    cases a with
    | nil => cases this
    | cons p r => exact ⟨pairD p, r.map pairD, rfl⟩
  rcases h with rfl | rfl | rfl
  · exact key _ (by decide +kernel)
  · exact key _ (by decide +kernel)
  · exact key _ (by decide +kernel)
theorem lawPairsP {N : List Str} {frz : Bool} {Φ : Ph} (hN : ∀ x, startR N [x] = [some x, none, none, none, none, none, none, none]) : LawPairs fun ds => runF N lawPairsT frz Φ ds := by
  intro n S ev
  have n6 := ev.le
  obtain ⟨d, S', hd, rfl, rest⟩ : Rt (fun d S' => d = .lst ((PL n).map pairsD) ∧ ∃ B, S' = S ++ B) (lawPairsT Φ (startR N [leftT (List.range n)]) S) := by
    rw [hN]
    refine qasg (d := .lst ((foundP n 0).map itemL)) (S1 := S) rfl rfl ?_
    refine qloop (S0 := S) (xs := rngD 0 (n / 2)) (src_rng (n := n / 2) ((bin_of ((call1 rfl).trans (fLen_of rfl)) rfl).trans (by
        have : (natsD (List.range n)).length = n := by unfold natsD; rw [List.length_map, List.length_range]
        rw [this]; exact half_of n S)) (by omega))
      (fun r ρ S' => ∃ (i : Nat) (B : Store) (d : D) (x2 x3 x4 x5 x6 : Option D), i + r.length = n / 2 ∧ S' = S ++ B ∧ HasL d S' ((foundP n i).map itemL) ∧ ρ = [some (leftT (List.range n)), some d, x2, x3, x4, x5, x6, none])
      ⟨0, [], _, _, _, _, _, _, by rw [rng_len]; omega, by rw [List.append_nil], .inl rfl, rfl⟩ ?_ ?_
    · rintro x r ρ S' ⟨i, B, d, x2, x3, x4, x5, x6, hi, rfl, hl, rfl⟩
      rw [List.length_cons] at hi
      obtain ⟨b1, b2⟩ := found_ok n n6.2 i (by omega)
      obtain ⟨b3, _⟩ := found_ok n n6.2 (i + 1) (by omega)
      refine ⟨_, _, rfl, qasg (d := .ref (S ++ B).length) (S1 := S ++ B ++ [.lst []]) (lstM_of rfl (by simp) rfl) rfl ?_⟩
      -- what is appended while the found ones are gone through
      refine qloopH (d := d) (xs := (foundP n i).map itemL) rfl (fun r ρ S' => ∃ (done todo : List (Ps × List Nat)) (x4 x5 x6 : Option D), foundP n i = done ++ todo ∧ r = todo.map itemL ∧ S' = S ++ B ++ [.lst ((done.flatMap stepP).map itemL)] ∧ ρ = [some (leftT (List.range n)), some d, some x, some (.ref (S ++ B).length), x4, x5, x6, none])
        (fun r ρ S' ⟨done, todo, x4, x5, x6, _, _, e, _⟩ => by rw [e]; exact hl.app) ⟨[], foundP n i, _, _, _, rfl, rfl, rfl, rfl⟩ ?_ ?_
      · rintro y r' ρ S' ⟨done, todo, x4, x5, x6, ef, er, rfl, rfl⟩
        obtain ⟨z, todo', rfl, rfl, er'⟩ : ∃ z todo', todo = z :: todo' ∧ y = itemL z ∧ r' = todo'.map itemL := by
          cases todo with
          | nil => cases er
          | cons z t => rw [List.map_cons] at er; injection er with e1 e2; exact ⟨z, t, rfl, e1, e2⟩
        have zm : z ∈ foundP n i := by rw [ef]; simp
        have q := List.all_eq_true.mp b2 z zm
        unfold okF at q
        rw [Bool.and_eq_true, Bool.and_eq_true, decide_eq_true_eq, decide_eq_true_eq] at q
        refine ⟨_, _, rfl, ?_⟩
        show Nx _ (sFor _ _ _ Φ [some (leftT (List.range n)), some d, some x, some (.ref (S ++ B).length), some (pairsD z.1), some (leftT z.2), x6, none] _)
        refine qloopE (S0 := S ++ B ++ [.lst ((done.flatMap stepP).map itemL)]) (xs := natsD z.2.tail) (srcT ((sl_of rfl (so_of rfl) rfl).trans (oSlT.trans (by rw [tail_cut])))) (fun r ρ S' => ∃ (u v : List Nat) (x6 : Option D), z.2.tail = u ++ v ∧ r = natsD v ∧ S' = S ++ B ++ [.lst ((done.flatMap stepP).map itemL ++ u.map fun o => itemL (nextP z o))] ∧ ρ = [some (leftT (List.range n)), some d, some x, some (.ref (S ++ B).length), some (pairsD z.1), some (leftT z.2), x6, none]) ⟨[], z.2.tail, _, rfl, rfl, by rw [List.map_nil, List.append_nil], rfl⟩ ?_ ?_
        · rintro y r2 ρ S' ⟨u, v, x6, eu, ev', rfl, rfl⟩
          obtain ⟨o, v', rfl, rfl, er2⟩ : ∃ o v', v = o :: v' ∧ y = .int (o : Nat) ∧ r2 = natsD v' := by
            cases v with
            | nil => cases ev'
            | cons o t => unfold natsD at ev'; rw [List.map_cons] at ev'; injection ev' with e1 e2; exact ⟨o, t, rfl, e1, e2⟩
          obtain ⟨a, t, hz⟩ : ∃ a t, z.2 = a :: t := by
            cases hz : z.2 with
            | nil => rw [hz] at eu; simp at eu
            | cons a t => exact ⟨a, t, rfl⟩
          let R : Ro := [some (leftT (List.range n)), some d, some x, some (.ref (S ++ B).length), some (pairsD z.1), some (leftT z.2), some (.int (o : Nat)), none]
          let S2 : Store := S ++ B ++ [.lst ((done.flatMap stepP).map itemL ++ u.map fun o => itemL (nextP z o))]
          have cell : S2[(S ++ B).length]? = some (.lst ((done.flatMap stepP).map itemL ++ u.map fun o => itemL (nextP z o))) := get_last
          have q1 : eBin oAdd (eVar 4) (eTup (aCons (eTup (aCons (eBin oIx (eVar 5) (eC (D.int 0))) (aCons (eVar 6) aNil)) 0) aNil) 0) Φ R S2 = .ok (pairsD (z.1 ++ [(a, o)])) S2 := by
            refine bin_b rfl (tup_of (args1 (tup_of (args2 (bin_b (x := leftT z.2) (y := .int (0 : Nat)) rfl rfl (oIx_of (xs := natsD (a :: t)) (x := .int (a : Nat)) (by rw [hz]; rfl) (atI_nat (natsD (a :: t)) 0 (by show 0 < (t.map _).length + 1; exact Nat.zero_lt_succ _)))) rfl) (by simp))) (by simp)) ((oAddT (by rw [List.length_map]; simp; omega)).trans ?_)
            unfold pairsD; rw [List.map_append]; rfl
          have q2 : eCall (op1 fTuple) (aCons (eLc false (fun Φ ρ => (eSl false (eVar 5) (vSo (eC (D.int 1))) vNo Φ ρ).bind srcOf) (gNm 7) (tCmp oNe (eVar 7) (eVar 6)) (eVar 7) [7]) aNil) Φ R S2 = .ok (leftT (z.2.tail.filter fun p => !(p == o))) S2 := by
            refine (call1 (eLc_filtM (S1 := S2) (l := z.2.tail) (fun i => D.int (i : Nat)) (fun p => !(p == o)) (fun i => D.int (i : Nat)) (srcT ((sl_of rfl (so_of rfl) rfl).trans (oSlT.trans (by rw [tail_cut]; rfl)))) (by rw [List.length_tail]; omega) fun i hi => ⟨[some (leftT (List.range n)), some d, some x, some (.ref (S ++ B).length), some (pairsD z.1), some (leftT z.2), some (.int (o : Nat)), some (.int (i : Nat))], rfl, cmp_of rfl rfl (nei_b ?_), fun _ => rfl⟩)).trans rfl
            have e : (((i : Nat) : Int) == ((o : Nat) : Int)) = (i == o) := by
              rw [Bool.eq_iff_iff, beq_iff_eq, beq_iff_eq]; omega
            rw [e]
          have q3 : eMt mAppend opNone (eVar 3) (aCons (eTup (aCons (eBin oAdd (eVar 4) (eTup (aCons (eTup (aCons (eBin oIx (eVar 5) (eC (D.int 0))) (aCons (eVar 6) aNil)) 0) aNil) 0)) (aCons (eCall (op1 fTuple) (aCons (eLc false (fun Φ ρ => (eSl false (eVar 5) (vSo (eC (D.int 1))) vNo Φ ρ).bind srcOf) (gNm 7) (tCmp oNe (eVar 7) (eVar 6)) (eVar 7) [7]) aNil)) aNil)) 0) aNil) Φ R S2 = .ok .non (S ++ B ++ [.lst ((done.flatMap stepP).map itemL ++ (u ++ [o]).map fun o => itemL (nextP z o))]) := by
            refine (mtL_of (d := .ref (S ++ B).length) rfl (lst_cell cell) (args1 (tup_of (ds := [pairsD (z.1 ++ [(a, o)]), leftT (z.2.tail.filter fun p => !(p == o))]) (args2 q1 q2) (by simp)))).trans ?_
            have e : D.tup [pairsD (z.1 ++ [(a, o)]), leftT (z.2.tail.filter fun p => !(p == o))] = itemL (nextP z o) := by unfold nextP itemL; rw [hz]; rfl
            rw [e]
            refine (append_cell cell (itemL_bel _ _) ?_).trans ?_
            · have hb : (done.flatMap stepP).length ≤ 200 := by
                have : (done.flatMap stepP).length ≤ (foundP n (i + 1)).length := by
                  show _ ≤ ((foundP n i).flatMap stepP).length
                  rw [ef, List.flatMap_append, List.length_append]; omega
                omega
              have hu : u.length ≤ z.2.tail.length := by rw [eu, List.length_append]; omega
              rw [List.length_tail] at hu
              rw [List.length_append, List.length_map, List.length_map]; omega
            · show G.R.ok D.non (S2.set (S ++ B).length _) = _
              have e2 : S2.set (S ++ B).length (.lst (((done.flatMap stepP).map itemL ++ u.map fun o => itemL (nextP z o)) ++ [itemL (nextP z o)])) = S ++ B ++ [.lst (((done.flatMap stepP).map itemL ++ u.map fun o => itemL (nextP z o)) ++ [itemL (nextP z o)])] := set_last
              rw [e2, List.map_append, List.append_assoc (List.map itemL _)]; rfl
          exact ⟨_, _, rfl, qdropE q3 (nx_done ⟨u ++ [o], v', _, by rw [eu, List.append_assoc]; rfl, er2, rfl, rfl⟩)⟩
        · rintro ρ S' ⟨u, v, x6, eu, ev', rfl, rfl⟩
          have hv : v = [] := by cases v with
            | nil => rfl
            | cons o t => cases ev'
          subst hv
          rw [List.append_nil] at eu
          refine nx_done ⟨done ++ [z], todo', _, _, _, by rw [ef, List.append_assoc]; rfl, er', ?_, rfl⟩
          have e : (done ++ [z]).flatMap stepP = done.flatMap stepP ++ z.2.tail.map fun o => nextP z o := by
            rw [List.flatMap_append, List.flatMap_cons, List.flatMap_nil, List.append_nil]; rfl
          rw [e, List.map_append, List.map_map, ← eu]; rfl
      · rintro ρ S' ⟨done, todo, x4, x5, x6, ef, er, rfl, rfl⟩
        have ht : todo = [] := by cases todo with
          | nil => rfl
          | cons o t => cases er
        subst ht
        rw [List.append_nil] at ef
        refine qasgE (d := .ref (S ++ B).length) rfl rfl (nx_done ⟨i + 1, B ++ [.lst ((done.flatMap stepP).map itemL)], .ref (S ++ B).length, _, _, _, _, _, by omega, by rw [List.append_assoc], .inr ⟨_, rfl, ?_⟩, rfl⟩)
        rw [← ef]; exact get_last
    · rintro ρ S' ⟨i, B, d, x2, x3, x4, x5, x6, hi, rfl, hl, rfl⟩
      have ei : i = n / 2 := by simpa using hi
      subst ei
      obtain ⟨b1, b2⟩ := found_ok n n6.2 (n / 2) (by omega)
      have e : (PL n).map pairsD = (foundP n (n / 2)).map fun x => pairsD x.1 := by unfold PL; rw [List.map_map]; rfl
      have ne : PL n ≠ [] := by obtain ⟨x, r, e, _⟩ := PL_cons ev; rw [e]; simp
      refine qret (d := .lst ((PL n).map pairsD)) (S1 := S ++ B) ((call1 (eLc_mapH (l := foundP n (n / 2)) itemL (fun x => pairsD x.1) rfl hl (by omega) fun x hx => ⟨[some (leftT (List.range n)), some d, x2, x3, some (pairsD x.1), some (leftT x.2), x6, none], rfl, rfl, rfl⟩)).trans ?_) ⟨_, _, rfl, rfl, B, rfl⟩
      rw [← e]
      exact sorted_row (PL_row ev) ne (PL_tu ev)
  obtain ⟨B, rfl⟩ := rest
  exact (run_st hd (pl_bels _ _)).trans (by rw [take_app])
end G
end

section
set_option Elab.async false
set_option linter.all false
set_option maxRecDepth 100000
namespace G
open PySem PySem.Spec PyProof.Rows L2
/-! ### all orders of some places -/
def pickN (xs : List Nat) (ix : List Nat) : List Nat := ix.map fun k => xs.getD k 0
def permN (xs : List Nat) : List (List Nat) := (permL xs.length).map (pickN xs)
def pathD (p : List Nat) : D := .tup (natsD p)
def permB (n : Nat) : Bool := permG n && (decide ((permL n).length ≤ 120) && (permL n).all fun ix => ix.all fun k => decide (k < n))
theorem permB_all : ∀ n, n ≤ 5 → permB n = true := by decide +kernel
theorem permB_ok {n : Nat} (h : n ≤ 5) : permG n = true ∧ (permL n).length ≤ 120 ∧ ∀ ix ∈ permL n, ∀ k ∈ ix, k < n := by
  have q := permB_all n h
  unfold permB at q
  rw [Bool.and_eq_true, Bool.and_eq_true, decide_eq_true_eq, List.all_eq_true] at q
  refine ⟨q.1, q.2.1, fun ix hix k hk => ?_⟩
  simpa using List.all_eq_true.mp (q.2.2 ix hix) k hk
theorem permN_len {xs : List Nat} (h : xs.length ≤ 5) : (permN xs).length ≤ 120 := by unfold permN; rw [List.length_map]; exact (permB_ok h).2.1
theorem permL_len {n : Nat} (h : n ≤ 5) {ix : List Nat} (hi : ix ∈ permL n) : ix.length = n := by
  obtain ⟨q1, _⟩ := permB_ok h
  unfold permG at q1
  rw [Bool.and_eq_true] at q1
  obtain ⟨i, hi, e⟩ := List.mem_iff_getElem.mp hi
  exact permOk_mem q1.2 (i := i) (by rw [List.getElem?_eq_getElem hi, e])
theorem permN_mem {xs p : List Nat} (h : xs.length ≤ 5) (hp : p ∈ permN xs) : p.length = xs.length ∧ ∀ x ∈ p, x ∈ xs := by
  unfold permN at hp
  obtain ⟨ix, hix, rfl⟩ := List.mem_map.mp hp
  refine ⟨by unfold pickN; rw [List.length_map]; exact permL_len h hix, fun x hx => ?_⟩
  unfold pickN at hx
  obtain ⟨k, hk, rfl⟩ := List.mem_map.mp hx
  have := (permB_ok h).2.2 ix hix k hk
  exact G.getD_mem this
theorem permsD_nats {xs : List Nat} (h : xs.length ≤ 5) : permsD (natsD xs) = (permN xs).map pathD := by
  unfold permsD permN
  rw [List.map_map]
  have e : (natsD xs).length = xs.length := List.length_map _
  rw [e]
  refine List.map_congr_left fun ix hix => ?_
  show D.tup _ = D.tup _
  unfold natsD pickN
  rw [List.map_map]
  congr 1
  refine List.map_congr_left fun k hk => ?_
  have hk := (permB_ok h).2.2 ix hix k hk
  show (xs.map fun i => D.int (i : Nat)).getD k .non = D.int (xs.getD k 0 : Nat)
  rw [G.getD_at (by rw [List.length_map]; exact hk), List.getElem_map, G.getD_at hk]
theorem perm_src {a : Ev} {Φ : Ph} {ρ : Ro} {S S1 : Store} {xs : List Nat} {d : D} (h : a Φ ρ S = .ok d S1) (hd : d = .lst (natsD xs) ∨ d = .tup (natsD xs)) (hl : xs.length ≤ 5) : vSrc sPerm (aCons a aNil) Φ ρ S = .ok (fixS ((permN xs).map pathD)) S1 := by
  refine (vsrc_of (args1 h)).trans ?_
  rw [← permsD_nats hl]
  have e : (natsD xs).length = xs.length := List.length_map _
  have k : permSrc (natsD xs) S1 = .ok (fixS (permsD (natsD xs))) S1 := by
    unfold permSrc
    rw [if_pos (by rw [e]; exact (permB_ok hl).1)]
  rcases hd with rfl | rfl <;> exact k
/-! the law's own orders -/
def memB (p : Nat) : List Nat → Bool
  | [] => false
  | a :: r => if Nat.beq p a then true else memB p r
theorem memB_ok {p : Nat} : ∀ {r : List Nat}, memB p r = decide (p ∈ r)
  | [] => by unfold memB; simp
  | a :: r => by
    unfold memB
    by_cases e : p = a
    · rw [if_pos (by rw [e]; exact Nat.beq_refl a)]; simp [e]
    · rw [if_neg (fun z => e (Nat.eq_of_beq_eq_true z)), memB_ok]
      simp [e]
def ordF (xs : List Nat) : Nat → List (List Nat)
  | 0 => [[]]
  | k + 1 => (ordF xs k).flatMap fun r => (xs.filter fun p => !(memB p r)).map fun p => r ++ [p]
def ordN (xs : List Nat) : List (List Nat) := ordF xs xs.length
theorem ordF_in {xs : List Nat} : ∀ {k : Nat} {r : List Nat}, r ∈ ordF xs k → r.length = k ∧ ∀ p ∈ r, p ∈ xs
  | 0, r, h => by
    have := List.mem_singleton.mp h
    subst this
    exact ⟨rfl, fun p hp => by cases hp⟩
  | k + 1, r, h => by
    obtain ⟨q, hq, h⟩ := List.mem_flatMap.mp h
    obtain ⟨p, hp, rfl⟩ := List.mem_map.mp h
    obtain ⟨h1, h2⟩ := ordF_in hq
    refine ⟨by rw [List.length_append, h1]; rfl, fun z hz => ?_⟩
    rcases List.mem_append.mp hz with hz | hz
    · exact h2 z hz
    · rw [List.mem_singleton.mp hz]; exact (List.mem_filter.mp hp).1
theorem ordF_len {xs : List Nat} : ∀ k, (ordF xs k).length ≤ xs.length ^ k
  | 0 => Nat.le_refl _
  | k + 1 => by
    refine Nat.le_trans (flat_len (B := xs.length) fun r _ => ?_) ?_
    · rw [List.length_map]; exact List.length_filter_le _ _
    · rw [Nat.pow_succ]; exact Nat.mul_le_mul_right _ (ordF_len k)
theorem ordF_map {g : Nat → Nat} {l : List Nat} (inj : ∀ a ∈ l, ∀ b ∈ l, g a = g b → a = b) : ∀ k, ordF (l.map g) k = (ordF l k).map fun r => r.map g
  | 0 => rfl
  | k + 1 => by
    show (ordF (l.map g) k).flatMap _ = ((ordF l k).flatMap _).map _
    rw [ordF_map inj k, List.flatMap_map, List.map_flatMap]
    have : ∀ (m : List (List Nat)), (∀ r ∈ m, ∀ p ∈ r, p ∈ l) → m.flatMap (fun r => ((l.map g).filter fun p => !(memB p (r.map g))).map fun p => r.map g ++ [p]) = m.flatMap fun r => List.map (fun r => r.map g) ((l.filter fun p => !(memB p r)).map fun p => r ++ [p]) := by
      intro m
      induction m with
      | nil => intro _; rfl
      | cons r m ih =>
        intro hm
        rw [List.flatMap_cons, List.flatMap_cons, ih fun z hz => hm z (List.mem_cons_of_mem _ hz)]
        congr 1
        rw [List.filter_map, List.map_map, List.map_map]
        have e : l.filter ((fun p => !(memB p (r.map g))) ∘ g) = l.filter fun p => !(memB p r) := by
          refine List.filter_congr fun p hp => ?_
          show (!(memB (g p) (r.map g))) = _
          congr 1
          rw [memB_ok, memB_ok, Bool.eq_iff_iff, decide_eq_true_eq, decide_eq_true_eq]
          refine ⟨fun z => ?_, fun z => List.mem_map_of_mem z⟩
          obtain ⟨q, hq, e⟩ := List.mem_map.mp z
          rw [← inj q (hm r List.mem_cons_self q hq) p hp e]; exact hq
        rw [e]
        refine List.map_congr_left fun p _ => ?_
        show r.map g ++ [g p] = (r ++ [p]).map g
        rw [List.map_append]; rfl
    exact this _ fun r hr => (ordF_in hr).2
def eqB : List Nat → List Nat → Bool
  | [], [] => true
  | a :: r, b :: s => if Nat.beq a b then eqB r s else false
  | _, _ => false
def eqBB : List (List Nat) → List (List Nat) → Bool
  | [], [] => true
  | a :: r, b :: s => if eqB a b then eqBB r s else false
  | _, _ => false
theorem eqB_ok : ∀ {a b : List Nat}, eqB a b = true → a = b
  | [], [], _ => rfl
  | a :: r, b :: s, h => by
    unfold eqB at h
    split at h
    · rename_i e
      rw [Nat.eq_of_beq_eq_true e, eqB_ok h]
    · cases h
  | [], _ :: _, h => by cases h
  | _ :: _, [], h => by cases h
theorem eqBB_ok : ∀ {a b : List (List Nat)}, eqBB a b = true → a = b
  | [], [], _ => rfl
  | a :: r, b :: s, h => by
    unfold eqBB at h
    split at h
    · rename_i e
      rw [eqB_ok e, eqBB_ok h]
    · cases h
  | [], _ :: _, h => by cases h
  | _ :: _, [], h => by cases h
theorem ord_rangeB : ∀ n, n ≤ 5 → eqBB (ordF (List.range n) n) (permL n) = true := by decide +kernel
theorem ord_range (n : Nat) (h : n ≤ 5) : ordF (List.range n) n = permL n := eqBB_ok (ord_rangeB n h)
theorem map_getD (xs : List Nat) : (List.range xs.length).map (fun k => xs.getD k 0) = xs := by
  refine List.ext_getElem (by simp) fun i h1 h2 => ?_
  rw [List.getElem_map, List.getElem_range, G.getD_at h2]
theorem ord_perm {xs : List Nat} (nd : xs.Nodup) (h : xs.length ≤ 5) : ordN xs = permN xs := by
  have inj : ∀ a ∈ List.range xs.length, ∀ b ∈ List.range xs.length, xs.getD a 0 = xs.getD b 0 → a = b := fun a ha b hb e => by
    have ha := List.mem_range.mp ha
    have hb := List.mem_range.mp hb
    rw [G.getD_at ha, G.getD_at hb] at e
    exact (List.getElem_inj nd).mp e
  have q := ordF_map inj xs.length
  rw [map_getD, ord_range _ h] at q
  exact q
/-! the law's walk of them -/
abbrev ordersT : Sm :=
    (sSeq (sAsg (eLst false (aCons (eTup aNil 0) aNil)) (gmN (gNm 1)))
      (sSeq
        (sFor (vSrc sRng (aCons (eCall (op1 fLen) (aCons (eVar 0) aNil)) aNil)) (gmN (gNm 2))
          (sSeq (sAsg (eLst false aNil) (gmN (gNm 3)))
            (sSeq
              (sFor (fun Φ ρ => (eVar 1 Φ ρ).bind srcOf) (gmN (gNm 4))
                (sAsg
                  (eBin oAdd (eVar 3)
                    (eLc false (fun Φ ρ => (eVar 0 Φ ρ).bind srcOf) (gNm 5) (tCmp oNotIn (eVar 5) (eVar 4))
                      (eBin oAdd (eVar 4) (eTup (aCons (eVar 5) aNil) 0))
                      [5]))
                  (gmN (gNm 3))))
              (sAsg (eVar 3) (gmN (gNm 1))))))
        (sRet (eVar 1))))
def OrdersOf (f : List D → M D) : Prop := ∀ (xs : List Nat) (S : Store), xs.length ≤ 5 → f [.tup (natsD xs)] S = .ok (.lst ((ordN xs).map pathD)) S
theorem notIn_nats {i : Nat} {ns : List Nat} {S : Store} : oNotIn (.int (i : Nat)) (.tup (natsD ns)) S = .ok (.bl (!(memB i ns))) S := by
  refine (oIn_of (xs := natsD ns) rfl (by rw [natsD_ints, shps_ints]; rfl)).1.trans ?_
  show R.ok (D.bl (!memD (.int (i : Nat)) (natsD ns))) S = _
  rw [natsD_ints, memD_ints, memB_ok]
  congr 3
  rw [Bool.eq_iff_iff, decide_eq_true_eq, decide_eq_true_eq]
  constructor
  · intro z
    obtain ⟨j, hj, e⟩ := List.mem_map.mp z
    have : j = i := by omega
    rw [← this]; exact hj
  · intro z; exact List.mem_map_of_mem z
theorem paths_bel (m : Nat) (l : List (List Nat)) : D.bels m (l.map pathD) = true := by
  induction l with
  | nil => rfl
  | cons a r ih =>
    show (D.bels m (natsD a) && D.bels m _) = true
    rw [bels_nats]; exact ih
theorem pow7 {a k : Nat} (ha : a ≤ 5) (hk : k ≤ 5) : a ^ k ≤ 3125 := Nat.le_trans (Nat.pow_le_pow_left ha k) (Nat.le_trans (Nat.pow_le_pow_right (by decide) hk) (by decide))
theorem ordersP {N : List Str} {frz : Bool} {Φ : Ph} (hN : ∀ x, startR N [x] = [some x, none, none, none, none, none]) : OrdersOf fun ds => runF N ordersT frz Φ ds := by
  intro xs S hl
  have ln : ∀ k, k ≤ 5 → (ordF xs k).length ≤ 3125 := fun k hk => Nat.le_trans (ordF_len k) (pow7 hl hk)
  obtain ⟨ρ', S', hf, rfl, x2, x3, x4, rfl⟩ := sFor_rng (Φ := Φ) (lo := 0) (n := xs.length) (gm := gmN (gNm 2)) (sv := vSrc sRng (aCons (eCall (op1 fLen) (aCons (eVar 0) aNil)) aNil)) (ρ := [some (.tup (natsD xs)), some (.lst ((ordF xs 0).map pathD)), none, none, none, none]) (S := S)
    (b := (sSeq (sAsg (eLst false aNil) (gmN (gNm 3)))
            (sSeq
              (sFor (fun Φ ρ => (eVar 1 Φ ρ).bind srcOf) (gmN (gNm 4))
                (sAsg
                  (eBin oAdd (eVar 3)
                    (eLc false (fun Φ ρ => (eVar 0 Φ ρ).bind srcOf) (gNm 5) (tCmp oNotIn (eVar 5) (eVar 4))
                      (eBin oAdd (eVar 4) (eTup (aCons (eVar 5) aNil) 0))
                      [5]))
                  (gmN (gNm 3))))
              (sAsg (eVar 3) (gmN (gNm 1))))))
    (src_rng (n := xs.length) ((call1 rfl).trans ((fLen_of (xs := natsD xs) rfl).trans (by unfold natsD; rw [List.length_map]))) (by omega))
    (fun i ρ S' => S' = S ∧ ∃ x2 x3 x4 : Option D, ρ = [some (.tup (natsD xs)), some (.lst ((ordF xs i).map pathD)), x2, x3, x4, none]) ⟨rfl, none, none, none, rfl⟩ (by
      rintro i ρ S' hi ⟨rfl, x2, x3, x4, rfl⟩
      have l1 := ln (i + 1) (by omega)
      refine ⟨_, S', [some (.tup (natsD xs)), some (.lst ((ordF xs (i + 1)).map pathD)), some (.int (0 + (i : Nat))), some (.lst ((ordF xs (i + 1)).map pathD)), ?x, none], S', rfl, .inl ?_, rfl, _, _, ?x, rfl⟩
      case x => exact if (ordF xs i) = [] then x4 else some (pathD ((ordF xs i).getLastD []))
      refine seq_b (asg_b (d := .lst []) (S1 := S') rfl rfl rfl) ?_
      obtain ⟨ρ', S2, h1, h2⟩ := forS_ex (gm := gmN (gNm 4) Φ) (body := (sAsg
                  (eBin oAdd (eVar 3)
                    (eLc false (fun Φ ρ => (eVar 0 Φ ρ).bind srcOf) (gNm 5) (tCmp oNotIn (eVar 5) (eVar 4))
                      (eBin oAdd (eVar 4) (eTup (aCons (eVar 5) aNil) 0))
                      [5]))
                  (gmN (gNm 3))) Φ) (xs := (ordF xs i).map pathD) (ρ := [some (.tup (natsD xs)), some (.lst ((ordF xs i).map pathD)), some (.int (0 + (i : Nat))), some (.lst []), x4, none]) (S := S')
        (Q := fun ρ S2 => S2 = S' ∧ ρ = [some (.tup (natsD xs)), some (.lst ((ordF xs i).map pathD)), some (.int (0 + (i : Nat))), some (.lst ((ordF xs (i + 1)).map pathD)), (if (ordF xs i) = [] then x4 else some (pathD ((ordF xs i).getLastD []))), none])
        (fun r ρ S2 => S2 = S' ∧ ∃ u v, ordF xs i = u ++ v ∧ r = v.map pathD ∧ ρ = [some (.tup (natsD xs)), some (.lst ((ordF xs i).map pathD)), some (.int (0 + (i : Nat))), some (.lst ((u.flatMap fun r => (xs.filter fun p => !(memB p r)).map fun p => r ++ [p]).map pathD)), (if u = [] then x4 else some (pathD (u.getLastD []))), none]) (by
          rintro d r ρ S2 ⟨rfl, u, v, e, er, rfl⟩
          cases v with
          | nil => cases er
          | cons z v =>
            cases er
            have hz : z ∈ ordF xs i := by rw [e]; simp
            obtain ⟨hz1, hz2⟩ := ordF_in hz
            refine ⟨_, S2, [some (.tup (natsD xs)), some (.lst ((ordF xs i).map pathD)), some (.int (0 + (i : Nat))), some (.lst (((u ++ [z]).flatMap fun r => (xs.filter fun p => !(memB p r)).map fun p => r ++ [p]).map pathD)), some (pathD z), none], S2, rfl, .inl ?_, rfl, u ++ [z], v, by rw [e]; simp, rfl, ?_⟩
            · refine asg_b (S1 := S2) (d := .lst (((u ++ [z]).flatMap fun r => (xs.filter fun p => !(memB p r)).map fun p => r ++ [p]).map pathD)) ?_ rfl rfl
              have em : ((u ++ [z]).flatMap fun r => (xs.filter fun p => !(memB p r)).map fun p => r ++ [p]).map pathD = (u.flatMap fun r => (xs.filter fun p => !(memB p r)).map fun p => r ++ [p]).map pathD ++ (xs.filter fun p => !(memB p z)).map fun p => pathD (z ++ [p]) := by
                rw [List.flatMap_append, List.map_append, List.flatMap_cons, List.flatMap_nil, List.append_nil, List.map_map]; rfl
              have bnd : ((u ++ [z]).flatMap fun r => (xs.filter fun p => !(memB p r)).map fun p => r ++ [p]).length ≤ 3125 := by
                refine Nat.le_trans ?_ l1
                show _ ≤ ((ordF xs i).flatMap _).length
                have e5 : u ++ z :: v = (u ++ [z]) ++ v := by simp
                rw [e, e5, List.flatMap_append (xs := u ++ [z]), List.length_append]
                exact Nat.le_add_right _ _
              have bnd2 := congrArg List.length em
              rw [List.length_map, List.length_append] at bnd2
              rw [em]
              refine bin_b rfl (eLc_filtM (S1 := S2) (l := xs) (fun p => D.int (p : Nat)) (fun p => !(memB p z)) (fun p => pathD (z ++ [p])) (srcT rfl) (by omega) fun p hp => ⟨[some (.tup (natsD xs)), some (.lst ((ordF xs i).map pathD)), some (.int (0 + (i : Nat))), some (.lst ((u.flatMap fun r => (xs.filter fun p => !(memB p r)).map fun p => r ++ [p]).map pathD)), some (pathD z), some (.int (p : Nat))], rfl, cmp_of rfl rfl notIn_nats, fun _ => ?_⟩) (oAddL (by omega))
              refine bin_b (y := .tup [.int (p : Nat)]) rfl (tup_of (args1 rfl) (by show 1 ≤ _; decide)) ((oAddT ?_).trans ?_)
              · show (natsD z).length + 1 ≤ _
                unfold natsD; rw [List.length_map]; omega
              · show R.ok (D.tup (natsD z ++ natsD [p])) S2 = R.ok (D.tup (natsD (z ++ [p]))) S2
                unfold natsD; rw [List.map_append]
            · rw [if_neg (by simp), List.getLastD_concat])
        ⟨rfl, [], ordF xs i, rfl, rfl, rfl⟩ (by
          rintro ρ S2 ⟨rfl, u, v, e, er, rfl⟩
          have : v = [] := by cases v with
            | nil => rfl
            | cons a v => cases er
          subst this
          rw [List.append_nil] at e
          subst e
          exact ⟨rfl, rfl⟩)
      obtain ⟨rfl, rfl⟩ := h2
      refine seq_b ((sFor_of (srcL rfl)).trans h1) (asg_b (S1 := S2) rfl rfl rfl))
  refine run_pl ?_ (paths_bel _ _)
  rw [hN]
  exact seq_b (asg_b (d := .lst ((ordF xs 0).map pathD)) (S1 := S') rfl rfl rfl) (seq_b hf (ret_of rfl))
end G
end

section
set_option Elab.async false
set_option linter.all false
set_option maxRecDepth 100000
namespace G
open PySem PySem.Spec PyProof.Rows L2
/-! ### places told -/
abbrev chkPlaceT (jb : Nat) : Sm :=
    (sIf
      (vNot
        (tvOf
          (eFn jb
            (aCons (eVar 1)
              (aCons (eC (D.int 0))
                (aCons (eBin oSub (eCall (op1 fLen) (aCons (eVar 0) aNil)) (eC (D.int 1))) aNil))))))
      sBad sNx)
def ChkPlace (f : List D → M D) : Prop := ∀ (n : Nat) (M : Mx) (i : Nat) (S : Store), Sq n M → i < n → f [tbl M, .int (i : Nat)] S = .ok .non S
theorem chkPlaceP {N : List Str} {frz : Bool} {Φ : Ph} {jb : Nat} (h : BetwI (Φ jb)) (hN : ∀ x y, startR N [x, y] = [some x, some y]) : ChkPlace fun ds => runF N (chkPlaceT jb) frz Φ ds := by
  intro n M i S sq hi
  refine run_nx (ρ := [some (tbl M), some (.int (i : Nat))]) ?_
  rw [hN]
  refine (sif_f (vnot_of (p := true) (tv_of ((fn3 rfl rfl (bin_b ((call1 rfl).trans (tbl_len sq)) rfl (sub_b rfl))).trans ((h _ _ _ S).trans ?_))))).trans rfl
  rw [decide_eq_true (by omega : (0 : Int) ≤ ((i : Nat) : Int)), decide_eq_true (by omega : ((i : Nat) : Int) ≤ ((n : Nat) : Int) - 1)]; rfl
abbrev chkTwoT (jc : Nat) : Sm :=
    (sSeq (sDrop (eFn jc (aCons (eVar 0) (aCons (eVar 1) aNil))))
      (sSeq (sDrop (eFn jc (aCons (eVar 0) (aCons (eVar 2) aNil)))) (sIf (tCmp oEq (eVar 1) (eVar 2)) sBad sNx)))
def ChkTwo (f : List D → M D) : Prop := ∀ (n : Nat) (M : Mx) (i j : Nat) (S : Store), Sq n M → i < n → j < n → i ≠ j → f [tbl M, .int (i : Nat), .int (j : Nat)] S = .ok .non S
theorem chkTwoP {N : List Str} {frz : Bool} {Φ : Ph} {jc : Nat} (h : ChkPlace (Φ jc)) (hN : ∀ x y z, startR N [x, y, z] = [some x, some y, some z]) : ChkTwo fun ds => runF N (chkTwoT jc) frz Φ ds := by
  intro n M i j S sq hi hj ne
  refine run_nx (ρ := [some (tbl M), some (.int (i : Nat)), some (.int (j : Nat))]) ?_
  rw [hN]
  refine seq_b (drop_of ((fn2 rfl rfl).trans (h n M i S sq hi))) (seq_b (drop_of ((fn2 rfl rfl).trans (h n M j S sq hj))) ?_)
  refine (sif_f (cmp_of rfl rfl (eqi_b (r := .ok (.bl false) S) ?_))).trans rfl
  rw [beq_eq_false_iff_ne.mpr (by omega : ((i : Nat) : Int) ≠ ((j : Nat) : Int))]
abbrev chkEndsT (jt jc : Nat) : Sm :=
    (sSeq (sDrop (eFn jt (aCons (eVar 0) aNil))) (sDrop (eFn jc (aCons (eVar 0) (aCons (eVar 1) (aCons (eVar 2) aNil))))))
/-- of a TABLE and two places -/
def PathTo (f : List D → M D) (g : Nat → Mx → Nat → Nat → D) : Prop := ∀ (n : Nat) (M : Mx) (i j : Nat) (S : Store), TbI n M → n ≤ 6 → i < n → j < n → i ≠ j → f [tbl M, .int (i : Nat), .int (j : Nat)] S = .ok (g n M i j) S
theorem chkEndsP {N : List Str} {frz : Bool} {Φ : Ph} {jt jc : Nat} (h : ChkTab (Φ jt)) (h2 : ChkTwo (Φ jc)) (hN : ∀ x y z, startR N [x, y, z] = [some x, some y, some z]) : PathTo (fun ds => runF N (chkEndsT jt jc) frz Φ ds) fun _ _ _ _ => .non := by
  intro n M i j S tb n6 hi hj ne
  refine run_nx (ρ := [some (tbl M), some (.int (i : Nat)), some (.int (j : Nat))]) ?_
  rw [hN]
  exact seq_b (drop_of ((fn1 rfl).trans (h n M S tb (by omega) (by omega)))) (drop_of ((fn3 rfl rfl rfl).trans (h2 n M i j S tb.sq hi hj ne)))
/-! ### paths -/
def lenP (M : Mx) (p : List Nat) : Int := ((List.range (p.length - 1)).map fun i => getM M (p.getD i 0) (p.getD (i + 1) 0)).sum
abbrev pathSumT : Sm :=
    (sRet
      (eCall (op1 fSum)
        (aCons
          (eLc false (vSrc sRng (aCons (eC (D.int 1)) (aCons (eCall (op1 fLen) (aCons (eVar 1) aNil)) aNil))) (gNm 2)
            vYes
            (eBin oIx (eBin oIx (eVar 0) (eBin oIx (eVar 1) (eBin oSub (eVar 2) (eC (D.int 1)))))
              (eBin oIx (eVar 1) (eVar 2)))
            [2])
          aNil)))
def PathSum (f : List D → M D) : Prop := ∀ (n : Nat) (M : Mx) (p : List Nat) (S : Store), Sq n M → 1 ≤ p.length → p.length ≤ 1000 → (∀ x ∈ p, x < n) → f [tbl M, pathD p] S = .ok (.int (lenP M p)) S
theorem atN {p : List Nat} {i : Nat} {S : Store} (hi : i < p.length) : oIx (pathD p) (.int (i : Nat)) S = .ok (.int (p.getD i 0 : Nat)) S := by
  refine oIx_of (xs := natsD p) rfl ?_
  rw [atI_nat _ i (by unfold natsD; rw [List.length_map]; exact hi)]
  unfold natsD
  rw [List.getElem_map, G.getD_at hi]
theorem pathSumP {N : List Str} {frz : Bool} {Φ : Ph} (hN : ∀ x y, startR N [x, y] = [some x, some y, none]) : PathSum fun ds => runF N pathSumT frz Φ ds := by
  intro n M p S sq h1 hl hp
  refine run_pl ?_ rfl
  rw [hN]
  have es : rngD ((1 : Nat) : Int) (p.length - 1) = (List.range (p.length - 1)).map fun i => D.int ((1 : Nat) + (i : Nat)) := rfl
  have em : ((List.range (p.length - 1)).map fun i => D.int (getM M (p.getD i 0) (p.getD (i + 1) 0))) = ((List.range (p.length - 1)).map fun i => getM M (p.getD i 0) (p.getD (i + 1) 0)).map D.int := by rw [List.map_map]; rfl
  refine ret_of ((call1 (eLc_mapM (S1 := S) (l := List.range (p.length - 1)) (fun i => D.int ((1 : Nat) + (i : Nat))) (fun i => D.int (getM M (p.getD i 0) (p.getD (i + 1) 0))) ((src_rng2 (m := 1) (n := p.length) rfl ((call1 rfl).trans ((fLen_of (xs := natsD p) rfl).trans (by unfold natsD; rw [List.length_map]))) (by omega) (by omega)).trans (by rw [es])) (by rw [List.length_range]; omega) fun i hi => ⟨[some (tbl M), some (pathD p), some (.int ((1 : Nat) + (i : Nat)))], rfl, rfl, ?_⟩)).trans ?_)
  · have hi := List.mem_range.mp hi
    refine tix sq rfl (bin_b (y := .int (i : Nat)) rfl (bin_b rfl rfl (sub_b ?_)) (atN (by omega))) (bin_b (S1 := S) (S2 := S) (y := .int ((i + 1 : Nat))) rfl ?_ (atN (by omega))) (hp _ (G.getD_mem (by omega))) (hp _ (G.getD_mem (by omega)))
    · show R.ok (D.int (((1 : Nat) : Int) + (i : Nat) - 1)) S = _
      congr 2; omega
    · show R.ok (D.int (((1 : Nat) : Int) + (i : Nat))) S = _
      congr 2; omega
  · rw [em, sum_lst]
    rfl
/-- the law's sum -/
abbrev wayT : Sm :=
    (sRet
      (eCall (op1 fSum)
        (aCons
          (eLc false
            (vSrc sZip
              (aCons (eSl false (eVar 1) vNo (vSo (eUn uNeg (eC (D.int 1)))))
                (aCons (eSl false (eVar 1) (vSo (eC (D.int 1))) vNo) aNil)))
            (gTu [2, 3])
            vYes (eBin oIx (eBin oIx (eVar 0) (eVar 2)) (eVar 3))
            [2, 3])
          aNil)))
theorem cut_drop1 {α : Type} (xs : List α) : cutD xs none (some (-1)) = xs.dropLast := by
  unfold cutD
  have e : HT.sIx xs.length xs.length (some (-1)) = xs.length - 1 := by
    simp only [HT.sIx]
    rw [if_pos (by decide)]; omega
  rw [e]
  show (xs.drop 0).take (xs.length - 1 - 0) = _
  rw [List.drop_zero, Nat.sub_zero, List.dropLast_eq_take]
theorem zipD_range : ∀ (xs ys : List D), xs.length = ys.length → zipD xs ys = (List.range xs.length).map fun i => D.tpk [xs.getD i .non, ys.getD i .non]
  | [], [], _ => rfl
  | x :: xs, y :: ys, h => by
    unfold zipD
    rw [zipD_range xs ys (by simpa using h), List.length_cons, List.range_succ_eq_map, List.map_cons, List.map_map]
    rfl
  | [], _ :: _, h => by cases h
  | _ :: _, [], h => by cases h
theorem zip_path {p : List Nat} (h : 1 ≤ p.length) : zipD (cutD (natsD p) none (some (-1))) (cutD (natsD p) (some 1) none) = (List.range (p.length - 1)).map fun i => D.tpk [.int (p.getD i 0 : Nat), .int (p.getD (i + 1) 0 : Nat)] := by
  have e1 : cutD (natsD p) (some 1) none = natsD (p.drop 1) := by
    refine (cut_lo (natsD p) 1).trans ?_
    unfold natsD; rw [List.map_drop]
  have e0 : cutD (natsD p) none (some (-1)) = natsD p.dropLast := by
    rw [cut_drop1]; unfold natsD; rw [List.map_dropLast]
  have l0 : (natsD p.dropLast).length = p.length - 1 := by unfold natsD; rw [List.length_map, List.length_dropLast]
  have l1 : (natsD (p.drop 1)).length = p.length - 1 := by unfold natsD; rw [List.length_map, List.length_drop]
  rw [e0, e1, zipD_range _ _ (by rw [l0, l1]), l0]
  refine List.map_congr_left fun i hi => ?_
  have hi := List.mem_range.mp hi
  have g1 : (natsD p.dropLast).getD i .non = .int (p.getD i 0 : Nat) := by
    rw [G.getD_at (by rw [l0]; exact hi)]
    unfold natsD
    rw [List.getElem_map, List.getElem_dropLast, G.getD_at (by omega)]
  have g2 : (natsD (p.drop 1)).getD i .non = .int (p.getD (i + 1) 0 : Nat) := by
    rw [G.getD_at (by rw [l1]; exact hi)]
    unfold natsD
    rw [List.getElem_map, List.getElem_drop, G.getD_at (by omega : i + 1 < p.length)]
    congr 3; omega
  rw [g1, g2]
theorem sZip_t {xs ys : List D} {S : Store} : sZip [.tup xs, .tup ys] S = .ok (fixS (zipD xs ys)) S := rfl
theorem wayP {N : List Str} {frz : Bool} {Φ : Ph} (hN : ∀ x y, startR N [x, y] = [some x, some y, none, none]) : PathSum fun ds => runF N wayT frz Φ ds := by
  intro n M p S sq h1 hl hp
  refine run_pl ?_ rfl
  rw [hN]
  have em : ((List.range (p.length - 1)).map fun i => D.int (getM M (p.getD i 0) (p.getD (i + 1) 0))) = ((List.range (p.length - 1)).map fun i => getM M (p.getD i 0) (p.getD (i + 1) 0)).map D.int := by rw [List.map_map]; rfl
  refine ret_of ((call1 (eLc_mapM (S1 := S) (l := List.range (p.length - 1)) (fun i => D.tpk [.int (p.getD i 0 : Nat), .int (p.getD (i + 1) 0 : Nat)]) (fun i => D.int (getM M (p.getD i 0) (p.getD (i + 1) 0))) ((vsrc_of (args2 ((sl_of rfl rfl (so_of rfl)).trans oSlT) ((sl_of rfl (so_of rfl) rfl).trans oSlT))).trans (sZip_t.trans (by rw [← zip_path h1]))) (by rw [List.length_range]; omega) fun i hi => ⟨[some (tbl M), some (pathD p), some (.int (p.getD i 0 : Nat)), some (.int (p.getD (i + 1) 0 : Nat))], rfl, rfl, ?_⟩)).trans ?_)
  · have hi := List.mem_range.mp hi
    exact tix sq rfl rfl rfl (hp _ (G.getD_mem (by omega))) (hp _ (G.getD_mem (by omega)))
  · rw [em, sum_lst]
    rfl
/-! all paths from place to place -/
def mid (n a b : Nat) : List Nat := (List.range n).filter fun p => !(p == a) && !(p == b)
def pathsN (n a b : Nat) : List (List Nat) := (permN (mid n a b)).map fun r => a :: (r ++ [b])
def pathB (n a b : Nat) (p : List Nat) : Bool := (p.length == n) && (p.all fun x => Nat.blt x n) && ((pathsN n b a).any fun q => eqB q p.reverse) && (List.range (n - 1)).all fun i => !(Nat.beq (p.getD i 0) (p.getD (i + 1) 0))
def pathsB (n a b : Nat) : Bool := decide ((mid n a b).length ≤ 4) && (decide ((pathsN n a b).length ≤ 24) && (!(pathsN n a b).isEmpty && (pathsN n a b).all (pathB n a b)))
def ltL : List Nat → List Nat → Bool
  | [], [] => false
  | [], _ :: _ => true
  | _ :: _, [] => false
  | a :: r, b :: s => if Nat.beq a b then ltL r s else Nat.blt a b
def upB : List (List Nat) → Bool
  | [] => true
  | a :: r => r.all (fun b => !(ltL b a)) && upB r
theorem ltL_ok : ∀ (a b : List Nat), ltL a b = decide ((a.map fun i => ((i : Nat) : Int)) < (b.map fun i => ((i : Nat) : Int)))
  | [], [] => by simp [ltL]
  | [], _ :: _ => by simp [ltL]
  | _ :: _, [] => by simp [ltL]
  | a :: r, b :: s => by
    unfold ltL
    rw [List.map_cons, List.map_cons]
    by_cases e : a = b
    · subst e
      rw [if_pos (Nat.beq_refl a), ltL_ok r s]
      congr 1
      rw [List.cons_lt_cons_iff]
      simp
    · rw [if_neg (fun z => e (Nat.eq_of_beq_eq_true z)), Bool.eq_iff_iff, decide_eq_true_eq, List.cons_lt_cons_iff, Nat.blt_eq]
      constructor
      · intro h; left; omega
      · rintro (h | ⟨h, _⟩)
        · omega
        · omega
theorem lt_paths (a b : List Nat) : ltD (pathD a) (pathD b) = ltL a b := by
  unfold ltD
  show PySem.W.dataLt (.tuple (D.toPs (natsD a))) (.tuple (D.toPs (natsD b))) = _
  rw [PySem.W.dataLt_tuple]
  have e : ∀ l : List Nat, D.toPs (natsD l) = (l.map fun i => ((i : Nat) : Int)).map PyData.int := by
    intro l
    induction l with
    | nil => rfl
    | cons x l ih =>
      show PyData.int _ :: D.toPs (natsD l) = _
      rw [ih]; rfl
  rw [e, e, ltL_ok]
  exact PySem.W.dataLt_ints _ _
theorem alike_paths : ∀ (a b : List Nat), PySem.W.alikeAll (D.toPs (natsD a)) (D.toPs (natsD b)) = true
  | [], b => by
    show PySem.W.alikeAll [] _ = true
    unfold PySem.W.alikeAll; rfl
  | x :: a, [] => by
    show PySem.W.alikeAll (_ :: _) [] = true
    unfold PySem.W.alikeAll; rfl
  | x :: a, y :: b => by
    show PySem.W.alikeAll (PyData.int _ :: D.toPs (natsD a)) (PyData.int _ :: D.toPs (natsD b)) = true
    unfold PySem.W.alikeAll
    rw [alike_paths a b, Bool.and_true]
    unfold PySem.W.alike; rfl
theorem up_pair : ∀ {l : List (List Nat)}, upB l = true → l.Pairwise fun a b => ltD (pathD b) (pathD a) = false
  | [], _ => .nil
  | a :: r, h => by
    unfold upB at h
    rw [Bool.and_eq_true, List.all_eq_true] at h
    refine .cons (fun b hb => ?_) (up_pair h.2)
    rw [lt_paths]
    simpa using h.1 b hb
theorem row_paths {l : List (List Nat)} (h : upB l = true) : Row pathD l := ⟨fun a _ => shps_nats 28 a, fun a _ b _ => by
  show PySem.W.alike (.tuple (D.toPs (natsD a))) (.tuple (D.toPs (natsD b))) = true
  unfold PySem.W.alike
  exact alike_paths a b, up_pair h⟩
theorem paths_all : ∀ n, n ≤ 6 → ∀ a, a < n → ∀ b, b < n → (if Nat.beq a b then true else pathsB n a b && upB (pathsN n a b)) = true := by decide +kernel
structure PathsOk (n a b : Nat) : Prop where
  ml : (mid n a b).length ≤ 4
  len : (pathsN n a b).length ≤ 24
  ex : ∃ x r, pathsN n a b = x :: r
  mem : ∀ p ∈ pathsN n a b, p.length = n ∧ (∀ x ∈ p, x < n) ∧ p.reverse ∈ pathsN n b a
  ne : ∀ p ∈ pathsN n a b, ∀ i, i < n - 1 → p.getD i 0 ≠ p.getD (i + 1) 0
  row : Row pathD (pathsN n a b)
theorem paths_ok {n a b : Nat} (h : n ≤ 6) (ha : a < n) (hb : b < n) (ne : a ≠ b) : PathsOk n a b := by
  have q := paths_all n h a ha b hb
  rw [if_neg (fun z => ne (Nat.eq_of_beq_eq_true z)), Bool.and_eq_true] at q
  obtain ⟨q1, q2⟩ := q
  unfold pathsB at q1
  rw [Bool.and_eq_true, Bool.and_eq_true, Bool.and_eq_true, decide_eq_true_eq, decide_eq_true_eq, List.all_eq_true] at q1
  obtain ⟨h1, h2, h3, h4⟩ := q1
  refine ⟨h1, h2, ?_, fun p hp => ?_, fun p hp i hi z => ?_, row_paths q2⟩
  · cases e : pathsN n a b with
    | nil => rw [e] at h3; cases h3
    | cons x r => exact ⟨x, r, rfl⟩
  · have q := h4 p hp
    unfold pathB at q
    rw [Bool.and_eq_true, Bool.and_eq_true, Bool.and_eq_true, beq_iff_eq, List.all_eq_true, List.any_eq_true] at q
    obtain ⟨⟨⟨k1, k2⟩, r, k3, k4⟩, _⟩ := q
    refine ⟨k1, fun x hx => by have := k2 x hx; rwa [Nat.blt_eq] at this, ?_⟩
    rw [← eqB_ok k4]; exact k3
  · have q := h4 p hp
    unfold pathB at q
    rw [Bool.and_eq_true, List.all_eq_true (p := fun i => !(Nat.beq (p.getD i 0) (p.getD (i + 1) 0)))] at q
    have := q.2 i (List.mem_range.mpr hi)
    rw [z, Nat.beq_refl] at this
    cases this
/-- the first least path -/
def lp (n : Nat) (M : Mx) (a b : Nat) : List Nat := match pathsN n a b with
  | [] => []
  | x :: r => firstMin (fun p => lenP M p) x r
theorem lp_mem {n a b : Nat} (ok : PathsOk n a b) (M : Mx) : lp n M a b ∈ pathsN n a b ∧ ∀ p ∈ pathsN n a b, lenP M (lp n M a b) ≤ lenP M p := by
  obtain ⟨x, r, e⟩ := ok.ex
  unfold lp
  rw [e]
  obtain ⟨h1, h2, _⟩ := firstMin_ok (fun p => lenP M p) x r x
  exact ⟨h2, h1⟩
theorem sum_rev : ∀ l : List Int, l.reverse.sum = l.sum
  | [] => rfl
  | a :: r => by
    rw [List.reverse_cons, List.sum_append, sum_rev r, List.sum_cons, List.sum_cons, List.sum_nil]
    omega
theorem lenP_rev {n : Nat} {M : Mx} (tb : TbI n M) {p : List Nat} (hp : ∀ x ∈ p, x < n) : lenP M p.reverse = lenP M p := by
  unfold lenP
  rw [List.length_reverse]
  have e : (List.range (p.length - 1)).map (fun i => getM M (p.reverse.getD i 0) (p.reverse.getD (i + 1) 0)) = ((List.range (p.length - 1)).map fun i => getM M (p.getD i 0) (p.getD (i + 1) 0)).reverse := by
    rw [← List.map_reverse, ← range_rev, List.map_map]
    refine List.map_congr_left fun i hi => ?_
    have hi := List.mem_range.mp hi
    show getM M _ _ = getM M (p.getD (p.length - 1 - 1 - i) 0) (p.getD (p.length - 1 - 1 - i + 1) 0)
    rw [G.getD_at (by rw [List.length_reverse]; omega), G.getD_at (by rw [List.length_reverse]; omega), List.getElem_reverse, List.getElem_reverse, G.getD_at (by omega : p.length - 1 - 1 - i < p.length), G.getD_at (by omega : p.length - 1 - 1 - i + 1 < p.length)]
    rw [tb.sy _ _ (hp _ (List.getElem_mem _)) (hp _ (List.getElem_mem _))]
    congr 2
    · omega
    · omega
  rw [e]
  exact sum_rev _
theorem lp_rev {n a b : Nat} {M : Mx} (tb : TbI n M) (ok : PathsOk n a b) (ok' : PathsOk n b a) : lenP M (lp n M b a) = lenP M (lp n M a b) := by
  obtain ⟨h1, h2⟩ := lp_mem ok M
  obtain ⟨k1, k2⟩ := lp_mem ok' M
  have u := ok.mem _ h1
  have v := ok'.mem _ k1
  have w1 := k2 _ u.2.2
  have w2 := h2 _ v.2.2
  rw [lenP_rev tb u.2.1] at w1
  rw [lenP_rev tb v.2.1] at w2
  omega
abbrev leastPathT (jl js : Nat) : Sm :=
    (sSeq
      (sAsg
        (eLc false (fun Φ ρ => (eFn jl (aCons (eVar 0) aNil) Φ ρ).bind srcOf) (gNm 5)
          (vAnd (tCmp oNe (eVar 5) (eVar 1)) (tCmp oNe (eVar 5) (eVar 2))) (eVar 5)
          [5])
        (gmN (gNm 3)))
      (sSeq
        (sAsg
          (eLc false (vSrc sPerm (aCons (eVar 3) aNil)) (gNm 6) vYes
            (eTup (aCons (eVar 1) (aStar (eVar 6) (aCons (eVar 2) aNil))) 0)
            [6])
          (gmN (gNm 4)))
        (sRet
          (eCall (op1 fMin1)
            (aCons
              (eLc false (fun Φ ρ => (eVar 4 Φ ρ).bind srcOf) (gNm 7) vYes
                (eTup (aCons (eFn js (aCons (eVar 0) (aCons (eVar 7) aNil))) (aCons (eVar 7) aNil)) 0)
                [7])
              aNil)))))
theorem nat_beq (a b : Nat) : ((((a : Nat) : Int)) == ((b : Nat) : Int)) = (a == b) := by
  rw [Bool.eq_iff_iff, beq_iff_eq, beq_iff_eq]; omega
theorem scoredP_bel (m : Nat) (i : Int) (p : List Nat) : D.bel m (scored i (pathD p)) = true := by
  show (true && (D.bels m (natsD p) && true)) = true
  rw [bels_nats]; rfl
theorem leastPathP {N : List Str} {frz : Bool} {Φ : Ph} {jl js : Nat} (hl : PlacesOf (Φ jl)) (hs : PathSum (Φ js)) (hN : ∀ x y z, startR N [x, y, z] = [some x, some y, some z, none, none, none, none, none]) : PathTo (fun ds => runF N (leastPathT jl js) frz Φ ds) fun n M a b => scored (lenP M (lp n M a b)) (pathD (lp n M a b)) := by
  intro n M a b S tb n6 ha hb ne
  have ok := paths_ok n6 ha hb ne
  obtain ⟨x, r, e⟩ := ok.ex
  refine run_pl ?_ (scoredP_bel _ _ _)
  rw [hN]
  refine seq_b (asg_b (d := .lst (natsD (mid n a b))) (S1 := S) ?_ rfl rfl) (seq_b (asg_b (d := .lst ((pathsN n a b).map pathD)) (S1 := S) ?_ rfl rfl) (ret_of ?_))
  · refine eLc_filtM (S1 := S) (l := List.range n) (fun i => D.int (i : Nat)) (fun p => !(p == a) && !(p == b)) (fun i => D.int (i : Nat)) (srcL ((fn1 rfl).trans ((places_tbl hl tb.sq (by omega)).trans (by rw [rngD_map])))) (by rw [List.length_range]; omega) fun i hi => ⟨[some (tbl M), some (.int (a : Nat)), some (.int (b : Nat)), none, none, some (.int (i : Nat)), none, none], rfl, vand_of (S1 := S) (cmp_of rfl rfl (nei_b (by rw [nat_beq]))) (fun _ => cmp_of rfl rfl (nei_b (by rw [nat_beq]))), fun _ => rfl⟩
  · have ep : (pathsN n a b).map pathD = (permN (mid n a b)).map fun r => pathD (a :: (r ++ [b])) := by unfold pathsN; rw [List.map_map]; rfl
    rw [ep]
    have ml := ok.ml
    refine eLc_mapM (S1 := S) (l := permN (mid n a b)) pathD (fun r => pathD (a :: (r ++ [b]))) (perm_src (xs := mid n a b) rfl (.inl rfl) (by omega)) (by have := permN_len (xs := mid n a b) (by omega); omega) fun p hp => ⟨[some (tbl M), some (.int (a : Nat)), some (.int (b : Nat)), some (.lst (natsD (mid n a b))), none, none, some (pathD p), none], rfl, rfl, ?_⟩
    have pl := (permN_mem (by omega) hp).1
    refine (tup_of (S1 := S) (ds := .int (a : Nat) :: (natsD p ++ [.int (b : Nat)])) (args_cons rfl (star_of (xs := natsD p) rfl rfl (args1 rfl))) ?_).trans ?_
    · rw [List.length_cons, List.length_append]
      unfold natsD; rw [List.length_map, pl]; simp; omega
    · unfold pathD natsD
      rw [List.map_cons, List.map_append]; rfl
  · have Rw := ok.row
    have ef : lp n M a b = firstMin (fun p => lenP M p) x r := by unfold lp; rw [e]
    have len := ok.len
    have mm := ok.mem
    rw [e] at Rw len mm ⊢
    show _ = G.R.ok (scored (lenP M (lp n M a b)) (pathD (lp n M a b))) S
    rw [ef]
    refine (call1 (eLc_mapM (S1 := S) (l := x :: r) pathD (fun p => scored (lenP M p) (pathD p)) (srcL rfl) (by omega) fun p hp => ⟨[some (tbl M), some (.int (a : Nat)), some (.int (b : Nat)), some (.lst (natsD (mid n a b))), some (.lst ((x :: r).map pathD)), none, none, some (pathD p)], rfl, rfl, ?_⟩)).trans (min_scored Rw)
    obtain ⟨k1, k2, _⟩ := mm p hp
    exact tup_of (args2 ((fn2 rfl rfl).trans (hs n M p S tb.sq (by omega) (by omega) k2)) rfl) (by simp)
abbrev ixPathT (j : Nat) (i : Int) : Sm := (sRet (eBin oIx (eFn j (aCons (eVar 0) (aCons (eVar 1) (aCons (eVar 2) aNil)))) (eC (D.int i))))
def PathScored (f : List D → M D) : Prop := PathTo f fun n M a b => scored (lenP M (lp n M a b)) (pathD (lp n M a b))
theorem ixPath0P {N : List Str} {frz : Bool} {Φ : Ph} {j : Nat} (h : PathScored (Φ j)) (hN : ∀ x y z, startR N [x, y, z] = [some x, some y, some z]) : PathTo (fun ds => runF N (ixPathT j 0) frz Φ ds) fun n M a b => .int (lenP M (lp n M a b)) := by
  intro n M a b S tb n6 ha hb ne
  refine run_pl ?_ rfl
  rw [hN]
  exact ret_of (bin_b (y := .int (0 : Nat)) ((fn3 rfl rfl rfl).trans (h n M a b S tb n6 ha hb ne)) rfl (oIx_of rfl rfl))
theorem ixPath1P {N : List Str} {frz : Bool} {Φ : Ph} {j : Nat} (h : PathScored (Φ j)) (hN : ∀ x y z, startR N [x, y, z] = [some x, some y, some z]) : PathTo (fun ds => runF N (ixPathT j 1) frz Φ ds) fun n M a b => pathD (lp n M a b) := by
  intro n M a b S tb n6 ha hb ne
  refine run_pl ?_ (by show D.bels _ (natsD _) = true; rw [bels_nats])
  rw [hN]
  exact ret_of (bin_b (y := .int (1 : Nat)) ((fn3 rfl rfl rfl).trans (h n M a b S tb n6 ha hb ne)) rfl (oIx_of rfl rfl))
abbrev chkPathT (jc jf : Nat) : Sm :=
    (sSeq (sDrop (eFn jc (aCons (eVar 0) (aCons (eVar 1) (aCons (eVar 2) aNil)))))
      (sRet (eFn jf (aCons (eVar 0) (aCons (eVar 1) (aCons (eVar 2) aNil))))))
theorem chkPathP {N : List Str} {frz : Bool} {Φ : Ph} {jc jf : Nat} {g : Nat → Mx → Nat → Nat → D} (h1 : PathTo (Φ jc) fun _ _ _ _ => .non) (h2 : PathTo (Φ jf) g) (hb : ∀ m n M a b, D.bel m (g n M a b) = true) (hN : ∀ x y z, startR N [x, y, z] = [some x, some y, some z]) : PathTo (fun ds => runF N (chkPathT jc jf) frz Φ ds) g := by
  intro n M a b S tb n6 ha hb' ne
  refine run_pl ?_ (hb _ _ _ _ _)
  rw [hN]
  exact seq_b (drop_of ((fn3 rfl rfl rfl).trans (h1 n M a b S tb n6 ha hb' ne))) (ret_of ((fn3 rfl rfl rfl).trans (h2 n M a b S tb n6 ha hb' ne)))
/-! with so much more between all places -/
def shiftM (c : Int) (n : Nat) (M : Mx) : Mx := (List.range n).map fun i => (List.range n).map fun j => if i = j then 0 else getM M i j + c
theorem getM_shift {c : Int} {n : Nat} {M : Mx} {i j : Nat} (hi : i < n) (hj : j < n) : getM (shiftM c n M) i j = if i = j then 0 else getM M i j + c := by
  have e : (shiftM c n M).getD i [] = (List.range n).map fun j => if i = j then 0 else getM M i j + c := by
    unfold shiftM
    rw [G.getD_at (by rw [List.length_map, List.length_range]; exact hi), List.getElem_map, List.getElem_range]
  show ((shiftM c n M).getD i []).getD j 0 = _
  rw [e, G.getD_at (by rw [List.length_map, List.length_range]; exact hj), List.getElem_map, List.getElem_range]
theorem shift_tb {c : Int} {n : Nat} {M : Mx} (tb : TbI n M) (h0 : 0 ≤ c) (h : ∀ i j, i < n → j < n → getM M i j + c ≤ 999) : TbI n (shiftM c n M) := by
  refine ⟨⟨by unfold shiftM; simp, fun r hr => ?_⟩, fun i j a b => ?_, fun i j a b => ?_, fun i j a b => ?_, fun i a => ?_⟩
  · unfold shiftM at hr
    obtain ⟨i, _, rfl⟩ := List.mem_map.mp hr
    simp
  · rw [getM_shift a b]; have := tb.lo i j a b; split <;> omega
  · rw [getM_shift a b]; have := h i j a b; split <;> omega
  · rw [getM_shift a b, getM_shift b a, tb.sy i j a b]
    by_cases e : i = j
    · rw [if_pos e, if_pos e.symm]
    · rw [if_neg e, if_neg (fun z : j = i => e z.symm)]
  · rw [getM_shift a a, if_pos rfl]
theorem tbl_shift (c : Int) (n : Nat) (M : Mx) : tbl (shiftM c n M) = .tup ((List.range n).map fun i => D.tup ((List.range n).map fun j => D.int (if i = j then 0 else getM M i j + c))) := by
  unfold tbl shiftM
  rw [List.map_map]
  congr 1
  refine List.map_congr_left fun i _ => ?_
  show D.tup _ = D.tup _
  rw [List.map_map]; rfl
theorem sum_shift (c : Int) (f g : Nat → Int) : ∀ l : List Nat, (∀ i ∈ l, f i = g i + c) → (l.map f).sum = (l.map g).sum + c * (l.length : Nat)
  | [], _ => by simp
  | a :: r, h => by
    rw [List.map_cons, List.map_cons, List.sum_cons, List.sum_cons, sum_shift c f g r fun i hi => h i (List.mem_cons_of_mem _ hi), h a List.mem_cons_self, List.length_cons]
    have : c * ((r.length + 1 : Nat) : Int) = c * (r.length : Nat) + c := by rw [Int.natCast_add, Int.mul_add]; simp
    omega
theorem len_shift {c : Int} {n a b : Nat} {M : Mx} (ok : PathsOk n a b) {p : List Nat} (hp : p ∈ pathsN n a b) : lenP (shiftM c n M) p = lenP M p + c * ((n - 1 : Nat) : Int) := by
  obtain ⟨k1, k2, _⟩ := ok.mem p hp
  unfold lenP
  rw [k1]
  have := sum_shift c (fun i => getM (shiftM c n M) (p.getD i 0) (p.getD (i + 1) 0)) (fun i => getM M (p.getD i 0) (p.getD (i + 1) 0)) (List.range (n - 1)) fun i hi => by
    have hi := List.mem_range.mp hi
    have hn := ok.ne p hp i hi
    rw [getM_shift (k2 _ (G.getD_mem (by omega))) (k2 _ (G.getD_mem (by omega))), if_neg hn]
  rw [List.length_range] at this
  exact this
theorem lp_shift {c : Int} {n a b : Nat} {M : Mx} (ok : PathsOk n a b) : lp n (shiftM c n M) a b = lp n M a b ∧ lenP (shiftM c n M) (lp n M a b) = lenP M (lp n M a b) + c * ((n - 1 : Nat) : Int) := by
  refine ⟨?_, len_shift ok (lp_mem ok M).1⟩
  obtain ⟨x, r, e⟩ := ok.ex
  have q := fun p hp => len_shift (c := c) (M := M) ok (p := p) hp
  rw [e] at q
  unfold lp; rw [e]
  exact firstMin_shift fun a ha b hb => by rw [q a ha, q b hb]; omega
theorem memB2 (i a b : Nat) : (!(memB i [a, b])) = (!(i == a) && !(i == b)) := by
  rw [memB_ok]
  by_cases h1 : i = a <;> by_cases h2 : i = b <;> simp [h1, h2]
theorem mid_nodup (n a b : Nat) : (mid n a b).Nodup := List.Nodup.sublist List.filter_sublist List.nodup_range
/-- the greatest of all rows' greatest -/
theorem max_rows {n : Nat} {M : Mx} (tb : TbI n M) (h1 : 1 ≤ n) : ∃ fr : List Int → Int, (∀ r ∈ M, maxI r = some (fr r)) ∧ ∃ V, maxI (M.map fr) = some V ∧ ∀ i j, i < n → j < n → getM M i j ≤ V := by
  let fr : List Int → Int := fun r => (maxI r).getD 0
  have hfr : ∀ r ∈ M, maxI r = some (fr r) ∧ ∀ y ∈ r, y ≤ fr r := by
    intro r hr
    have hl := (getM_row tb hr).1
    cases r with
    | nil => simp at hl; omega
    | cons a q => exact ⟨rfl, (foldmax q a).2⟩
  obtain ⟨V, hV, hVm⟩ : ∃ V, maxI (M.map fr) = some V ∧ ∀ r ∈ M, fr r ≤ V := by
    have hl := tb.sq.1
    cases hM : M with
    | nil => rw [hM] at hl; simp at hl; omega
    | cons a q => exact ⟨_, rfl, fun r hr => (foldmax (q.map fr) (fr a)).2 _ (by rw [← List.map_cons]; exact List.mem_map_of_mem hr)⟩
  refine ⟨fr, fun r hr => (hfr r hr).1, V, hV, fun i j hi hj => ?_⟩
  have hr : M.getD i [] ∈ M := G.getD_mem (by rw [tb.sq.1]; exact hi)
  have hy : (M.getD i []).getD j 0 ∈ M.getD i [] := G.getD_mem (by rw [tb.sq.row hi]; exact hj)
  have := (hfr _ hr).2 _ hy
  have := hVm _ hr
  show (M.getD i []).getD j 0 ≤ V
  omega
theorem max_ints {ns : List Int} {S : Store} {m : Int} (h : maxI ns = some m) : fMax1 (.lst (ns.map D.int)) S = .ok (.int m) S := by
  unfold fMax1
  simp only [show lstOf (.lst (ns.map D.int)) S = some (ns.map D.int) from rfl, intsOf_map, h]
theorem min_ints {ns : List Int} {S : Store} {m : Int} (h : minI ns = some m) : fMin1 (.lst (ns.map D.int)) S = .ok (.int m) S := by
  unfold fMin1
  simp only [show lstOf (.lst (ns.map D.int)) S = some (ns.map D.int) from rfl, intsOf_map, h]
theorem max_tup {ns : List Int} {S : Store} {m : Int} (h : maxI ns = some m) : fMax1 (.tup (ns.map D.int)) S = .ok (.int m) S := by
  unfold fMax1
  simp only [show lstOf (.tup (ns.map D.int)) S = none from rfl]
  unfold topT
  simp only [intsOf_map, h]
theorem enum_tbl {n : Nat} {M : Mx} (sq : Sq n M) (S : Store) : sEnum [tbl M] S = .ok (fixS ((List.range n).map fun i => D.tpk [.int (i : Nat), .tup ((M.getD i []).map D.int)])) S := by
  show R.ok (fixS (enumD 0 (M.map fun r => D.tup (r.map D.int)))) S = _
  rw [enumD_range, List.length_map, sq.1]
  congr 2
  refine List.map_congr_left fun i hi => ?_
  have hi := List.mem_range.mp hi
  rw [Nat.zero_add, G.getD_at (by rw [List.length_map, sq.1]; exact hi), List.getElem_map, G.getD_at (by rw [sq.1]; exact hi)]
end G
end

section
set_option Elab.async false
set_option linter.all false
set_option maxRecDepth 1000000
set_option maxHeartbeats 0
namespace K45
open PySem PySem.Spec PyProof.Rows L2 G
abbrev top (i : Nat) : Stmt := PySem.Challenge.pw_roundorders_k45_whole_least_paths.main.body.getD i (.Pass ⟨0, 0, 0, 0⟩)
/-- is_whole -/
def b0 :=
  (cbOne (csRet (cBo (CBl.and (cIsi "int" (cVar 0 "value" ⟨15, 22, 15, 27⟩) "int" (by decide +kernel) ⟨15, 11, 15, 21⟩ ⟨15, 29, 15, 32⟩ ⟨15, 11, 15, 33⟩) (CBl.one (cNot (cIsi "bool" (cVar 0 "value" ⟨15, 54, 15, 59⟩) "bool" (by decide +kernel) ⟨15, 43, 15, 53⟩ ⟨15, 61, 15, 65⟩ ⟨15, 43, 15, 66⟩) ⟨15, 39, 15, 66⟩))) ⟨15, 11, 15, 67⟩) ⟨15, 4, 15, 67⟩))
/-- is_between -/
def b1 :=
  (cbOne (csRet (cBo (CBl.and (cFn 0 "is_whole" ["value"] (caCons (cVar 0 "value" ⟨17, 20, 17, 25⟩) caNil) ⟨_, _, rfl⟩ rfl rfl ⟨17, 11, 17, 19⟩ ⟨17, 11, 17, 26⟩) (CBl.one (cChain co_le co_le (cVar 1 "low" ⟨17, 31, 17, 34⟩) (cVar 0 "value" ⟨17, 38, 17, 43⟩) (cVar 2 "high" ⟨17, 47, 17, 51⟩) ⟨17, 31, 17, 51⟩))) ⟨17, 11, 17, 51⟩) ⟨17, 4, 17, 51⟩))
/-- is_tuple_of -/
def b2 :=
  (cbOne (csRet (cBo (CBl.and (cIsi "tuple" (cVar 0 "value" ⟨19, 22, 19, 27⟩) "tuple" (by decide +kernel) ⟨19, 11, 19, 21⟩ ⟨19, 29, 19, 34⟩ ⟨19, 11, 19, 35⟩) (CBl.one (cCmp co_eq (cCallB "len" "len" (by decide +kernel) cf_len (caCons (cVar 0 "value" ⟨19, 44, 19, 49⟩) caNil) ⟨_, _, rfl⟩ rfl ⟨19, 40, 19, 43⟩ ⟨19, 40, 19, 50⟩) (cVar 1 "many" ⟨19, 54, 19, 58⟩) ⟨19, 40, 19, 58⟩))) ⟨19, 11, 19, 58⟩) ⟨19, 4, 19, 58⟩))
/-- is_distance -/
def b3 :=
  (cbOne (csRet (cFn 1 "is_between" ["value", "low", "high"] (caCons (cVar 0 "value" ⟨24, 22, 24, 27⟩) (caCons (cInt 0 0 ⟨24, 29, 24, 30⟩) (caCons (cGInt "MOST_DISTANCE" 999 ⟨24, 32, 24, 45⟩) caNil))) ⟨_, _, rfl⟩ rfl rfl ⟨24, 11, 24, 21⟩ ⟨24, 11, 24, 46⟩) ⟨24, 4, 24, 46⟩))
/-- is_table_by -/
def b4 :=
  (cbCons (csIf (ctBo (CTl.or (ctNot ((cIsi "tuple" (cVar 0 "value" ⟨26, 22, 26, 27⟩) "tuple" (by decide +kernel) ⟨26, 11, 26, 21⟩ ⟨26, 29, 26, 34⟩ ⟨26, 11, 26, 35⟩).test) ⟨26, 7, 26, 35⟩) (CTl.one2 (ctNot (ctChain co_le co_le (cInt 1 0 ⟨26, 43, 26, 44⟩) (cCallB "len" "len" (by decide +kernel) cf_len (caCons (cVar 0 "value" ⟨26, 52, 26, 57⟩) caNil) ⟨_, _, rfl⟩ rfl ⟨26, 48, 26, 51⟩ ⟨26, 48, 26, 58⟩) (cGInt "MOST_PLACES" 8 ⟨26, 62, 26, 73⟩) ⟨26, 43, 26, 73⟩) ⟨26, 39, 26, 73⟩))) ⟨26, 7, 26, 73⟩)
  (cbOne (csRet (cBl false 0 ⟨27, 15, 27, 20⟩) ⟨27, 8, 27, 20⟩))
  cbNil ⟨26, 4, 27, 20⟩)
  (cbCons (csSet 1 "many" ⟨28, 4, 28, 8⟩ (cCallB "len" "len" (by decide +kernel) cf_len (caCons (cVar 0 "value" ⟨28, 15, 28, 20⟩) caNil) ⟨_, _, rfl⟩ rfl ⟨28, 11, 28, 14⟩ ⟨28, 11, 28, 21⟩) ⟨28, 4, 28, 21⟩)
  (cbCons (csIf (ctNot ((cCallB "all" "all" (by decide +kernel) cf_all (caCons (cLc false (ciSeq (cVar 0 "value" ⟨29, 95, 29, 100⟩)) (cnName 2 "row" ⟨29, 88, 29, 91⟩) ctsNil (cBo (CBl.and (cFn 2 "is_tuple_of" ["value", "many"] (caCons (cVar 2 "row" ⟨29, 28, 29, 31⟩) (caCons (cVar 1 "many" ⟨29, 33, 29, 37⟩) caNil)) ⟨_, _, rfl⟩ rfl rfl ⟨29, 16, 29, 27⟩ ⟨29, 16, 29, 38⟩) (CBl.one (cCallB "all" "all" (by decide +kernel) cf_all (caCons (cLc false (ciSeq (cVar 2 "row" ⟨29, 78, 29, 81⟩)) (cnName 3 "each" ⟨29, 70, 29, 74⟩) ctsNil (cFn 3 "is_distance" ["value"] (caCons (cVar 3 "each" ⟨29, 60, 29, 64⟩) caNil) ⟨_, _, rfl⟩ rfl rfl ⟨29, 48, 29, 59⟩ ⟨29, 48, 29, 65⟩) { kind := PySem.ScopeKind.function, names := [((PySem.Str.ofString ".0"), PySem.NameKind.local), ((PySem.Str.ofString "each"), PySem.NameKind.local), ((PySem.Str.ofString "is_distance"), PySem.NameKind.globalImplicit)], isGenerator := false, isCoroutine := false, more := [] : PySem.Scope } [("each", 3)] ⟨29, 47, 29, 82⟩) caNil) ⟨_, _, rfl⟩ rfl ⟨29, 43, 29, 46⟩ ⟨29, 43, 29, 83⟩))) ⟨29, 16, 29, 83⟩) { kind := PySem.ScopeKind.function, names := [((PySem.Str.ofString ".0"), PySem.NameKind.local), ((PySem.Str.ofString "row"), PySem.NameKind.local), ((PySem.Str.ofString "is_tuple_of"), PySem.NameKind.globalImplicit), ((PySem.Str.ofString "all"), PySem.NameKind.globalImplicit), ((PySem.Str.ofString "many"), PySem.NameKind.free)], isGenerator := false, isCoroutine := false, more := [] : PySem.Scope } [("row", 2)] ⟨29, 15, 29, 101⟩) caNil) ⟨_, _, rfl⟩ rfl ⟨29, 11, 29, 14⟩ ⟨29, 11, 29, 102⟩).test) ⟨29, 7, 29, 102⟩)
  (cbOne (csRet (cBl false 0 ⟨30, 15, 30, 20⟩) ⟨30, 8, 30, 20⟩))
  cbNil ⟨29, 4, 30, 20⟩)
  (cbCons (csIf ((cCallB "any" "any" (by decide +kernel) cf_any (caCons (cLc false (ciRng1 (cVar 1 "many" ⟨31, 56, 31, 60⟩) ⟨31, 50, 31, 55⟩ ⟨31, 50, 31, 61⟩) (cnName 4 "place" ⟨31, 41, 31, 46⟩) ctsNil (cCmp co_ne (cIx (cIx (cVar 0 "value" ⟨31, 12, 31, 17⟩) (cVar 4 "place" ⟨31, 18, 31, 23⟩) ⟨31, 12, 31, 24⟩) (cVar 4 "place" ⟨31, 25, 31, 30⟩) ⟨31, 12, 31, 31⟩) (cInt 0 0 ⟨31, 35, 31, 36⟩) ⟨31, 12, 31, 36⟩) { kind := PySem.ScopeKind.function, names := [((PySem.Str.ofString ".0"), PySem.NameKind.local), ((PySem.Str.ofString "place"), PySem.NameKind.local), ((PySem.Str.ofString "value"), PySem.NameKind.free)], isGenerator := false, isCoroutine := false, more := [] : PySem.Scope } [("place", 4)] ⟨31, 11, 31, 62⟩) caNil) ⟨_, _, rfl⟩ rfl ⟨31, 7, 31, 10⟩ ⟨31, 7, 31, 63⟩).test)
  (cbOne (csRet (cBl false 0 ⟨32, 15, 32, 20⟩) ⟨32, 8, 32, 20⟩))
  cbNil ⟨31, 4, 32, 20⟩)
  (cbOne (csRet (cCallB "all" "all" (by decide +kernel) cf_all (caCons (cLc false (ciSeq (cFn 6 "pairs_of" ["many"] (caCons (cVar 1 "many" ⟨33, 76, 33, 80⟩) caNil) ⟨_, _, rfl⟩ rfl rfl ⟨33, 67, 33, 75⟩ ⟨33, 67, 33, 81⟩)) (cnTup [(5, "one", ⟨33, 55, 33, 58⟩), (6, "two", ⟨33, 60, 33, 63⟩)] 0 ⟨33, 55, 33, 63⟩) ctsNil (cCmp co_eq (cIx (cIx (cVar 0 "value" ⟨33, 16, 33, 21⟩) (cVar 5 "one" ⟨33, 22, 33, 25⟩) ⟨33, 16, 33, 26⟩) (cVar 6 "two" ⟨33, 27, 33, 30⟩) ⟨33, 16, 33, 31⟩) (cIx (cIx (cVar 0 "value" ⟨33, 35, 33, 40⟩) (cVar 6 "two" ⟨33, 41, 33, 44⟩) ⟨33, 35, 33, 45⟩) (cVar 5 "one" ⟨33, 46, 33, 49⟩) ⟨33, 35, 33, 50⟩) ⟨33, 16, 33, 50⟩) { kind := PySem.ScopeKind.function, names := [((PySem.Str.ofString ".0"), PySem.NameKind.local), ((PySem.Str.ofString "one"), PySem.NameKind.local), ((PySem.Str.ofString "two"), PySem.NameKind.local), ((PySem.Str.ofString "value"), PySem.NameKind.free)], isGenerator := false, isCoroutine := false, more := [] : PySem.Scope } [("one", 5), ("two", 6)] ⟨33, 15, 33, 82⟩) caNil) ⟨_, _, rfl⟩ rfl ⟨33, 11, 33, 14⟩ ⟨33, 11, 33, 83⟩) ⟨33, 4, 33, 83⟩))))))
/-- places_of -/
def b5 :=
  (cbOne (csRet (cListRg1 false (cCallB "len" "len" (by decide +kernel) cf_len (caCons (cVar 0 "table" ⟨35, 26, 35, 31⟩) caNil) ⟨_, _, rfl⟩ rfl ⟨35, 22, 35, 25⟩ ⟨35, 22, 35, 32⟩) ⟨35, 11, 35, 15⟩ ⟨35, 16, 35, 21⟩ ⟨35, 16, 35, 33⟩ ⟨35, 11, 35, 34⟩) ⟨35, 4, 35, 34⟩))
/-- pairs_of -/
def b6 :=
  (cbOne (csRet (cLc2 false (ciRng1 (cVar 0 "many" ⟨37, 40, 37, 44⟩) ⟨37, 34, 37, 39⟩ ⟨37, 34, 37, 45⟩) (cnName 1 "one" ⟨37, 27, 37, 30⟩) ctsNil (ciRng2 (cBin co_add (cVar 1 "one" ⟨37, 63, 37, 66⟩) (cInt 1 0 ⟨37, 69, 37, 70⟩) ⟨37, 63, 37, 70⟩) (cVar 0 "many" ⟨37, 72, 37, 76⟩) ⟨37, 57, 37, 62⟩ ⟨37, 57, 37, 77⟩) [2] (cnName 2 "two" ⟨37, 50, 37, 53⟩) ctsNil (cTup (caCons (cVar 1 "one" ⟨37, 13, 37, 16⟩) (caCons (cVar 2 "two" ⟨37, 18, 37, 21⟩) caNil)) 0 ⟨37, 12, 37, 22⟩) { kind := PySem.ScopeKind.function, names := [((PySem.Str.ofString ".0"), PySem.NameKind.local), ((PySem.Str.ofString "one"), PySem.NameKind.local), ((PySem.Str.ofString "two"), PySem.NameKind.local), ((PySem.Str.ofString "range"), PySem.NameKind.globalImplicit), ((PySem.Str.ofString "many"), PySem.NameKind.free)], isGenerator := false, isCoroutine := false, more := [] : PySem.Scope } [("one", 1), ("two", 2)] ⟨37, 11, 37, 78⟩) ⟨37, 4, 37, 78⟩))
/-- check_table -/
def b7 :=
  (cbOne (csIf (ctNot ((cFn 4 "is_table_by" ["value"] (caCons (cVar 0 "value" ⟨40, 23, 40, 28⟩) caNil) ⟨_, _, rfl⟩ rfl rfl ⟨40, 11, 40, 22⟩ ⟨40, 11, 40, 29⟩).test) ⟨40, 7, 40, 29⟩)
  (cbOne (csNever (PySem.Stmt.Raise (exc := (some (PySem.Expr.Call (func := (PySem.Expr.Name "NotATable" ⟨41, 14, 41, 23⟩)) (args := [(PySem.Expr.Name "value" ⟨41, 24, 41, 29⟩)]) (keywords := []) (pos := ⟨41, 14, 41, 30⟩)))) (cause := none) (pos := ⟨41, 8, 41, 30⟩))))
  cbNil ⟨40, 4, 41, 30⟩))
/-- check_place -/
def b8 :=
  (cbOne (csIf (ctNot ((cFn 1 "is_between" ["value", "low", "high"] (caCons (cVar 1 "value" ⟨43, 22, 43, 27⟩) (caCons (cInt 0 0 ⟨43, 29, 43, 30⟩) (caCons (cBin co_sub (cCallB "len" "len" (by decide +kernel) cf_len (caCons (cVar 0 "table" ⟨43, 36, 43, 41⟩) caNil) ⟨_, _, rfl⟩ rfl ⟨43, 32, 43, 35⟩ ⟨43, 32, 43, 42⟩) (cInt 1 0 ⟨43, 45, 43, 46⟩) ⟨43, 32, 43, 46⟩) caNil))) ⟨_, _, rfl⟩ rfl rfl ⟨43, 11, 43, 21⟩ ⟨43, 11, 43, 47⟩).test) ⟨43, 7, 43, 47⟩)
  (cbOne (csNever (PySem.Stmt.Raise (exc := (some (PySem.Expr.Call (func := (PySem.Expr.Name "InvalidPlace" ⟨44, 14, 44, 26⟩)) (args := [(PySem.Expr.Name "value" ⟨44, 27, 44, 32⟩)]) (keywords := []) (pos := ⟨44, 14, 44, 33⟩)))) (cause := none) (pos := ⟨44, 8, 44, 33⟩))))
  cbNil ⟨43, 4, 44, 33⟩))
/-- check_two_places -/
def b9 :=
  (cbCons (csExpr (cFn 8 "check_place" ["table", "value"] (caCons (cVar 0 "table" ⟨46, 16, 46, 21⟩) (caCons (cVar 1 "place" ⟨46, 23, 46, 28⟩) caNil)) ⟨_, _, rfl⟩ rfl rfl ⟨46, 4, 46, 15⟩ ⟨46, 4, 46, 29⟩) ⟨46, 4, 46, 29⟩)
  (cbCons (csExpr (cFn 8 "check_place" ["table", "value"] (caCons (cVar 0 "table" ⟨47, 16, 47, 21⟩) (caCons (cVar 2 "other" ⟨47, 23, 47, 28⟩) caNil)) ⟨_, _, rfl⟩ rfl rfl ⟨47, 4, 47, 15⟩ ⟨47, 4, 47, 29⟩) ⟨47, 4, 47, 29⟩)
  (cbOne (csIf (ctCmp co_eq (cVar 1 "place" ⟨48, 7, 48, 12⟩) (cVar 2 "other" ⟨48, 16, 48, 21⟩) ⟨48, 7, 48, 21⟩)
  (cbOne (csNever (PySem.Stmt.Raise (exc := (some (PySem.Expr.Call (func := (PySem.Expr.Name "InvalidPlace" ⟨49, 14, 49, 26⟩)) (args := [(PySem.Expr.Name "other" ⟨49, 27, 49, 32⟩)]) (keywords := []) (pos := ⟨49, 14, 49, 33⟩)))) (cause := none) (pos := ⟨49, 8, 49, 33⟩))))
  cbNil ⟨48, 4, 49, 33⟩))))
/-- path_sum -/
def b10 :=
  (cbOne (csRet (cCallB "sum" "sum" (by decide +kernel) cf_sum (caCons (cLc false (ciRng2 (cInt 1 0 ⟨52, 62, 52, 63⟩) (cCallB "len" "len" (by decide +kernel) cf_len (caCons (cVar 1 "path" ⟨52, 69, 52, 73⟩) caNil) ⟨_, _, rfl⟩ rfl ⟨52, 65, 52, 68⟩ ⟨52, 65, 52, 74⟩) ⟨52, 56, 52, 61⟩ ⟨52, 56, 52, 75⟩) (cnName 2 "at" ⟨52, 50, 52, 52⟩) ctsNil (cIx (cIx (cVar 0 "table" ⟨52, 16, 52, 21⟩) (cIx (cVar 1 "path" ⟨52, 22, 52, 26⟩) (cBin co_sub (cVar 2 "at" ⟨52, 27, 52, 29⟩) (cInt 1 0 ⟨52, 32, 52, 33⟩) ⟨52, 27, 52, 33⟩) ⟨52, 22, 52, 34⟩) ⟨52, 16, 52, 35⟩) (cIx (cVar 1 "path" ⟨52, 36, 52, 40⟩) (cVar 2 "at" ⟨52, 41, 52, 43⟩) ⟨52, 36, 52, 44⟩) ⟨52, 16, 52, 45⟩) { kind := PySem.ScopeKind.function, names := [((PySem.Str.ofString ".0"), PySem.NameKind.local), ((PySem.Str.ofString "at"), PySem.NameKind.local), ((PySem.Str.ofString "path"), PySem.NameKind.free), ((PySem.Str.ofString "table"), PySem.NameKind.free)], isGenerator := false, isCoroutine := false, more := [] : PySem.Scope } [("at", 2)] ⟨52, 15, 52, 76⟩) caNil) ⟨_, _, rfl⟩ rfl ⟨52, 11, 52, 14⟩ ⟨52, 11, 52, 77⟩) ⟨52, 4, 52, 77⟩))
/-- least_of_paths -/
def b11 :=
  (cbCons (csSetLc false 3 "middle" ⟨54, 4, 54, 10⟩ (ciSeq (cFn 5 "places_of" ["table"] (caCons (cVar 0 "table" ⟨54, 41, 54, 46⟩) caNil) ⟨_, _, rfl⟩ rfl rfl ⟨54, 31, 54, 40⟩ ⟨54, 31, 54, 47⟩)) (cnName 5 "each" ⟨54, 23, 54, 27⟩) (ctsOne (ctBo (CTl.and (ctCmp co_ne (cVar 5 "each" ⟨54, 51, 54, 55⟩) (cVar 1 "place" ⟨54, 59, 54, 64⟩) ⟨54, 51, 54, 64⟩) (CTl.one1 (ctCmp co_ne (cVar 5 "each" ⟨54, 69, 54, 73⟩) (cVar 2 "other" ⟨54, 77, 54, 82⟩) ⟨54, 69, 54, 82⟩))) ⟨54, 51, 54, 82⟩)) (cVar 5 "each" ⟨54, 14, 54, 18⟩) { kind := PySem.ScopeKind.function, names := [((PySem.Str.ofString ".0"), PySem.NameKind.local), ((PySem.Str.ofString "each"), PySem.NameKind.local), ((PySem.Str.ofString "other"), PySem.NameKind.free), ((PySem.Str.ofString "place"), PySem.NameKind.free)], isGenerator := false, isCoroutine := false, more := [] : PySem.Scope } [("each", 5)] ⟨54, 13, 54, 83⟩ ⟨54, 4, 54, 83⟩)
  (cbCons (csSetLc false 4 "paths" ⟨55, 4, 55, 9⟩ (ciPerm "permutations" (cVar 3 "middle" ⟨55, 60, 55, 66⟩) ⟨55, 47, 55, 59⟩ ⟨55, 47, 55, 67⟩) (cnName 6 "rest" ⟨55, 39, 55, 43⟩) ctsNil (cTup (caCons (cVar 1 "place" ⟨55, 14, 55, 19⟩) (caStar (cVar 6 "rest" ⟨55, 22, 55, 26⟩) (caCons (cVar 2 "other" ⟨55, 28, 55, 33⟩) caNil) ⟨55, 21, 55, 26⟩)) 0 ⟨55, 13, 55, 34⟩) { kind := PySem.ScopeKind.function, names := [((PySem.Str.ofString ".0"), PySem.NameKind.local), ((PySem.Str.ofString "rest"), PySem.NameKind.local), ((PySem.Str.ofString "other"), PySem.NameKind.free), ((PySem.Str.ofString "place"), PySem.NameKind.free)], isGenerator := false, isCoroutine := false, more := [] : PySem.Scope } [("rest", 6)] ⟨55, 12, 55, 68⟩ ⟨55, 4, 55, 68⟩)
  (cbOne (csRet (cCallB "min" "min" (by decide +kernel) cf_min1 (caCons (cLc false (ciSeq (cVar 4 "paths" ⟨56, 58, 56, 63⟩)) (cnName 7 "path" ⟨56, 50, 56, 54⟩) ctsNil (cTup (caCons (cFn 10 "path_sum" ["table", "path"] (caCons (cVar 0 "table" ⟨56, 26, 56, 31⟩) (caCons (cVar 7 "path" ⟨56, 33, 56, 37⟩) caNil)) ⟨_, _, rfl⟩ rfl rfl ⟨56, 17, 56, 25⟩ ⟨56, 17, 56, 38⟩) (caCons (cVar 7 "path" ⟨56, 40, 56, 44⟩) caNil)) 0 ⟨56, 16, 56, 45⟩) { kind := PySem.ScopeKind.function, names := [((PySem.Str.ofString ".0"), PySem.NameKind.local), ((PySem.Str.ofString "path"), PySem.NameKind.local), ((PySem.Str.ofString "path_sum"), PySem.NameKind.globalImplicit), ((PySem.Str.ofString "table"), PySem.NameKind.free)], isGenerator := false, isCoroutine := false, more := [] : PySem.Scope } [("path", 7)] ⟨56, 15, 56, 64⟩) caNil) ⟨_, _, rfl⟩ rfl ⟨56, 11, 56, 14⟩ ⟨56, 11, 56, 65⟩) ⟨56, 4, 56, 65⟩))))
/-- path_length_by -/
def b12 :=
  (cbOne (csRet (cIx (cFn 11 "least_of_paths" ["table", "place", "other"] (caCons (cVar 0 "table" ⟨58, 26, 58, 31⟩) (caCons (cVar 1 "place" ⟨58, 33, 58, 38⟩) (caCons (cVar 2 "other" ⟨58, 40, 58, 45⟩) caNil))) ⟨_, _, rfl⟩ rfl rfl ⟨58, 11, 58, 25⟩ ⟨58, 11, 58, 46⟩) (cInt 0 0 ⟨58, 47, 58, 48⟩) ⟨58, 11, 58, 49⟩) ⟨58, 4, 58, 49⟩))
/-- least_path_by -/
def b13 :=
  (cbOne (csRet (cIx (cFn 11 "least_of_paths" ["table", "place", "other"] (caCons (cVar 0 "table" ⟨60, 26, 60, 31⟩) (caCons (cVar 1 "place" ⟨60, 33, 60, 38⟩) (caCons (cVar 2 "other" ⟨60, 40, 60, 45⟩) caNil))) ⟨_, _, rfl⟩ rfl rfl ⟨60, 11, 60, 25⟩ ⟨60, 11, 60, 46⟩) (cInt 1 0 ⟨60, 47, 60, 48⟩) ⟨60, 11, 60, 49⟩) ⟨60, 4, 60, 49⟩))
/-- check_ends -/
def b14 :=
  (cbCons (csExpr (cFn 7 "check_table" ["value"] (caCons (cVar 0 "table" ⟨63, 16, 63, 21⟩) caNil) ⟨_, _, rfl⟩ rfl rfl ⟨63, 4, 63, 15⟩ ⟨63, 4, 63, 22⟩) ⟨63, 4, 63, 22⟩)
  (cbOne (csExpr (cFn 9 "check_two_places" ["table", "place", "other"] (caCons (cVar 0 "table" ⟨64, 21, 64, 26⟩) (caCons (cVar 1 "place" ⟨64, 28, 64, 33⟩) (caCons (cVar 2 "other" ⟨64, 35, 64, 40⟩) caNil))) ⟨_, _, rfl⟩ rfl rfl ⟨64, 4, 64, 20⟩ ⟨64, 4, 64, 41⟩) ⟨64, 4, 64, 41⟩)))
/-- path_length -/
def b15 :=
  (cbCons (csExpr (cFn 14 "check_ends" ["table", "place", "other"] (caCons (cVar 0 "table" ⟨66, 15, 66, 20⟩) (caCons (cVar 1 "place" ⟨66, 22, 66, 27⟩) (caCons (cVar 2 "other" ⟨66, 29, 66, 34⟩) caNil))) ⟨_, _, rfl⟩ rfl rfl ⟨66, 4, 66, 14⟩ ⟨66, 4, 66, 35⟩) ⟨66, 4, 66, 35⟩)
  (cbOne (csRet (cFn 12 "path_length_by" ["table", "place", "other"] (caCons (cVar 0 "table" ⟨67, 26, 67, 31⟩) (caCons (cVar 1 "place" ⟨67, 33, 67, 38⟩) (caCons (cVar 2 "other" ⟨67, 40, 67, 45⟩) caNil))) ⟨_, _, rfl⟩ rfl rfl ⟨67, 11, 67, 25⟩ ⟨67, 11, 67, 46⟩) ⟨67, 4, 67, 46⟩)))
/-- least_path -/
def b16 :=
  (cbCons (csExpr (cFn 14 "check_ends" ["table", "place", "other"] (caCons (cVar 0 "table" ⟨69, 15, 69, 20⟩) (caCons (cVar 1 "place" ⟨69, 22, 69, 27⟩) (caCons (cVar 2 "other" ⟨69, 29, 69, 34⟩) caNil))) ⟨_, _, rfl⟩ rfl rfl ⟨69, 4, 69, 14⟩ ⟨69, 4, 69, 35⟩) ⟨69, 4, 69, 35⟩)
  (cbOne (csRet (cFn 13 "least_path_by" ["table", "place", "other"] (caCons (cVar 0 "table" ⟨70, 25, 70, 30⟩) (caCons (cVar 1 "place" ⟨70, 32, 70, 37⟩) (caCons (cVar 2 "other" ⟨70, 39, 70, 44⟩) caNil))) ⟨_, _, rfl⟩ rfl rfl ⟨70, 11, 70, 24⟩ ⟨70, 11, 70, 45⟩) ⟨70, 4, 70, 45⟩)))
/-- _law_pool -/
def b17 :=
  (cbCons (csPar2 2 3 "own" "stirred" ⟨73, 4, 73, 7⟩ ⟨73, 9, 73, 16⟩ 0 ⟨73, 4, 73, 16⟩ (cIf (ctCmp co_lt (cVar 1 "lap" ⟨73, 40, 73, 43⟩) (cCallB "len" "len" (by decide +kernel) cf_len (caCons (cVar 0 "script" ⟨73, 50, 73, 56⟩) caNil) ⟨_, _, rfl⟩ rfl ⟨73, 46, 73, 49⟩ ⟨73, 46, 73, 57⟩) ⟨73, 40, 73, 57⟩) (cCallT "int" "int" (by decide +kernel) cf_int (caCons (cIx (cVar 0 "script" ⟨73, 24, 73, 30⟩) (cVar 1 "lap" ⟨73, 31, 73, 34⟩) ⟨73, 24, 73, 35⟩) caNil) ⟨_, _, rfl⟩ rfl ⟨73, 20, 73, 23⟩ ⟨73, 20, 73, 36⟩) (cBin co_add (cBin co_mul (cInt 70001 0 ⟨73, 63, 73, 68⟩) (cVar 1 "lap" ⟨73, 71, 73, 74⟩) ⟨73, 63, 73, 74⟩) (cInt 23665 0 ⟨73, 77, 73, 82⟩) ⟨73, 63, 73, 82⟩) ⟨73, 20, 73, 82⟩) (cBin co_add (cInt 2679685 0 ⟨73, 84, 73, 91⟩) (cBin co_mul (cInt 5087 0 ⟨73, 94, 73, 98⟩) (cVar 1 "lap" ⟨73, 101, 73, 104⟩) ⟨73, 94, 73, 104⟩) ⟨73, 84, 73, 104⟩) 0 ⟨73, 19, 73, 105⟩ ⟨73, 4, 73, 105⟩)
  (cbCons (csFor (ciSeq (cSl false (cVar 0 "script" ⟨74, 16, 74, 22⟩) coNo (coSo (cInt 63 0 ⟨74, 24, 74, 26⟩)) ⟨74, 23, 74, 26⟩ ⟨74, 16, 74, 27⟩)) (cgName 4 "cell" ⟨74, 8, 74, 12⟩)
  (cbOne (csSet 3 "stirred" ⟨75, 8, 75, 15⟩ (cBin co_mod (cCallT "int" "int" (by decide +kernel) cf_int (caCons (cBin co_add (cBin co_add (cBin co_mul (cVar 3 "stirred" ⟨75, 22, 75, 29⟩) (cInt 48271 0 ⟨75, 32, 75, 37⟩) ⟨75, 22, 75, 37⟩) (cBin co_mod (cCallT "int" "int" (by decide +kernel) cf_int (caCons (cVar 4 "cell" ⟨75, 44, 75, 48⟩) caNil) ⟨_, _, rfl⟩ rfl ⟨75, 40, 75, 43⟩ ⟨75, 40, 75, 49⟩) (cInt 2147483543 0 ⟨75, 52, 75, 62⟩) ⟨75, 40, 75, 62⟩) ⟨75, 22, 75, 62⟩) (cInt 5865 0 ⟨75, 65, 75, 69⟩) ⟨75, 22, 75, 69⟩) caNil) ⟨_, _, rfl⟩ rfl ⟨75, 18, 75, 21⟩ ⟨75, 18, 75, 70⟩) (cInt 2147483543 0 ⟨75, 73, 75, 83⟩) ⟨75, 18, 75, 83⟩) ⟨75, 8, 75, 83⟩)) ⟨74, 4, 75, 83⟩)
  (cbOne (csRet (cLst true (caCons (cBin co_mod (cCallT "int" "int" (by decide +kernel) cf_int (caCons (cBin co_add (cVar 3 "stirred" ⟨76, 16, 76, 23⟩) (cBin co_mul (cVar 2 "own" ⟨76, 26, 76, 29⟩) (cInt 1013 0 ⟨76, 32, 76, 36⟩) ⟨76, 26, 76, 36⟩) ⟨76, 16, 76, 36⟩) caNil) ⟨_, _, rfl⟩ rfl ⟨76, 12, 76, 15⟩ ⟨76, 12, 76, 37⟩) (cInt 2147483543 0 ⟨76, 40, 76, 50⟩) ⟨76, 12, 76, 50⟩) (caCons (cIf (ctBo (CTl.or (ctCmp co_lt (cVar 2 "own" ⟨76, 64, 76, 67⟩) (cInt 0 0 ⟨76, 70, 76, 71⟩) ⟨76, 64, 76, 71⟩) (CTl.one2 (ctCmp co_ge (cVar 2 "own" ⟨76, 75, 76, 78⟩) (cBin co_pow (cInt 10 0 ⟨76, 82, 76, 84⟩) (cInt 18 0 ⟨76, 88, 76, 90⟩) ⟨76, 82, 76, 90⟩) ⟨76, 75, 76, 90⟩))) ⟨76, 64, 76, 90⟩) (cCallB "abs" "abs" (by decide +kernel) cf_abs (caCons (cVar 2 "own" ⟨76, 56, 76, 59⟩) caNil) ⟨_, _, rfl⟩ rfl ⟨76, 52, 76, 55⟩ ⟨76, 52, 76, 60⟩) (cInt 0 0 ⟨76, 96, 76, 97⟩) ⟨76, 52, 76, 97⟩) (caCons (cInt 0 0 ⟨76, 99, 76, 100⟩) caNil))) ⟨76, 11, 76, 101⟩) ⟨76, 4, 76, 101⟩))))
/-- _law_draw -/
def b18 :=
  (cbCons (csIf (ctCmp co_gt (cIx (cVar 0 "pool" ⟨78, 7, 78, 11⟩) (cInt 1 0 ⟨78, 12, 78, 13⟩) ⟨78, 7, 78, 14⟩) (cInt 0 0 ⟨78, 17, 78, 18⟩) ⟨78, 7, 78, 18⟩)
  (cbCons (csTup (cgsCons (cgSub (cVar 0 "pool" ⟨79, 8, 79, 12⟩) (cInt 1 0 ⟨79, 13, 79, 14⟩) ⟨79, 8, 79, 15⟩) (cgsCons (cgName 2 "figure" ⟨79, 17, 79, 23⟩) cgsNil)) (cCallB "divmod" "divmod" (by decide +kernel) cf_divmod (caCons (cIx (cVar 0 "pool" ⟨79, 33, 79, 37⟩) (cInt 1 0 ⟨79, 38, 79, 39⟩) ⟨79, 33, 79, 40⟩) (caCons (cVar 1 "many" ⟨79, 42, 79, 46⟩) caNil)) ⟨_, _, rfl⟩ rfl ⟨79, 26, 79, 32⟩ ⟨79, 26, 79, 47⟩) 0 ⟨79, 8, 79, 23⟩ ⟨79, 8, 79, 47⟩)
  (cbOne (csRet (cVar 2 "figure" ⟨80, 15, 80, 21⟩) ⟨80, 8, 80, 21⟩)))
  cbNil ⟨78, 4, 80, 21⟩)
  (cbCons (csAsg (cgSub (cVar 0 "pool" ⟨81, 4, 81, 8⟩) (cInt 2 0 ⟨81, 9, 81, 10⟩) ⟨81, 4, 81, 11⟩) (cBin co_add (cIx (cVar 0 "pool" ⟨81, 14, 81, 18⟩) (cInt 2 0 ⟨81, 19, 81, 20⟩) ⟨81, 14, 81, 21⟩) (cInt 1 0 ⟨81, 24, 81, 25⟩) ⟨81, 14, 81, 25⟩) ⟨81, 4, 81, 25⟩)
  (cbCons (csSet 3 "held" ⟨82, 4, 82, 8⟩ (cCallT "int" "int" (by decide +kernel) cf_int (caCons (cIx (cVar 0 "pool" ⟨82, 15, 82, 19⟩) (cInt 0 0 ⟨82, 20, 82, 21⟩) ⟨82, 15, 82, 22⟩) caNil) ⟨_, _, rfl⟩ rfl ⟨82, 11, 82, 14⟩ ⟨82, 11, 82, 23⟩) ⟨82, 4, 82, 23⟩)
  (cbCons (csAsg (cgSub (cVar 0 "pool" ⟨83, 4, 83, 8⟩) (cInt 0 0 ⟨83, 9, 83, 10⟩) ⟨83, 4, 83, 11⟩) (cBin co_mod (cCallT "int" "int" (by decide +kernel) cf_int (caCons (cBin co_add (cBin co_add (cBin co_mul (cVar 3 "held" ⟨83, 18, 83, 22⟩) (cBin co_add (cBin co_mod (cVar 3 "held" ⟨83, 26, 83, 30⟩) (cInt 20011 0 ⟨83, 33, 83, 38⟩) ⟨83, 26, 83, 38⟩) (cInt 30011 0 ⟨83, 41, 83, 46⟩) ⟨83, 26, 83, 46⟩) ⟨83, 18, 83, 47⟩) (cBin co_mul (cInt 70001 0 ⟨83, 50, 83, 55⟩) (cIx (cVar 0 "pool" ⟨83, 58, 83, 62⟩) (cInt 2 0 ⟨83, 63, 83, 64⟩) ⟨83, 58, 83, 65⟩) ⟨83, 50, 83, 65⟩) ⟨83, 18, 83, 65⟩) (cInt 9 0 ⟨83, 68, 83, 69⟩) ⟨83, 18, 83, 69⟩) caNil) ⟨_, _, rfl⟩ rfl ⟨83, 14, 83, 17⟩ ⟨83, 14, 83, 70⟩) (cInt 2147483543 0 ⟨83, 73, 83, 83⟩) ⟨83, 14, 83, 83⟩) ⟨83, 4, 83, 83⟩)
  (cbOne (csRet (cBin co_mod (cCallT "int" "int" (by decide +kernel) cf_int (caCons (cBin co_fdiv (cIx (cVar 0 "pool" ⟨84, 15, 84, 19⟩) (cInt 0 0 ⟨84, 20, 84, 21⟩) ⟨84, 15, 84, 22⟩) (cInt 128 0 ⟨84, 26, 84, 29⟩) ⟨84, 15, 84, 29⟩) caNil) ⟨_, _, rfl⟩ rfl ⟨84, 11, 84, 14⟩ ⟨84, 11, 84, 30⟩) (cVar 1 "many" ⟨84, 33, 84, 37⟩) ⟨84, 11, 84, 37⟩) ⟨84, 4, 84, 37⟩))))))
/-- _law_pick -/
def b19 :=
  (cbOne (csRet (cIx (cVar 1 "some" ⟨86, 11, 86, 15⟩) (cFn 18 "_law_draw" ["pool", "many"] (caCons (cVar 0 "pool" ⟨86, 26, 86, 30⟩) (caCons (cCallB "len" "len" (by decide +kernel) cf_len (caCons (cVar 1 "some" ⟨86, 36, 86, 40⟩) caNil) ⟨_, _, rfl⟩ rfl ⟨86, 32, 86, 35⟩ ⟨86, 32, 86, 41⟩) caNil)) ⟨_, _, rfl⟩ rfl rfl ⟨86, 16, 86, 25⟩ ⟨86, 16, 86, 42⟩) ⟨86, 11, 86, 43⟩) ⟨86, 4, 86, 43⟩))
/-- _law_same -/
def b20 :=
  (cbCons (csIf ((cIsi "tuple" (cVar 0 "one" ⟨88, 18, 88, 21⟩) "tuple" (by decide +kernel) ⟨88, 7, 88, 17⟩ ⟨88, 23, 88, 28⟩ ⟨88, 7, 88, 29⟩).test)
  (cbOne (csRet (cBo (CBl.and (cIsi "tuple" (cVar 1 "other" ⟨89, 26, 89, 31⟩) "tuple" (by decide +kernel) ⟨89, 15, 89, 25⟩ ⟨89, 33, 89, 38⟩ ⟨89, 15, 89, 39⟩) (CBl.and (cCmp co_eq (cCallB "len" "len" (by decide +kernel) cf_len (caCons (cVar 0 "one" ⟨89, 48, 89, 51⟩) caNil) ⟨_, _, rfl⟩ rfl ⟨89, 44, 89, 47⟩ ⟨89, 44, 89, 52⟩) (cCallB "len" "len" (by decide +kernel) cf_len (caCons (cVar 1 "other" ⟨89, 60, 89, 65⟩) caNil) ⟨_, _, rfl⟩ rfl ⟨89, 56, 89, 59⟩ ⟨89, 56, 89, 66⟩) ⟨89, 44, 89, 66⟩) (CBl.one (cCmp co_eq (cLc false (ciRng1 (cCallB "len" "len" (by decide +kernel) cf_len (caCons (cVar 0 "one" ⟨89, 94, 89, 97⟩) caNil) ⟨_, _, rfl⟩ rfl ⟨89, 90, 89, 93⟩ ⟨89, 90, 89, 98⟩) ⟨89, 84, 89, 89⟩ ⟨89, 84, 89, 99⟩) (cnName 2 "k" ⟨89, 79, 89, 80⟩) (ctsOne (ctNot ((cFn 20 "_law_same" ["one", "other"] (caCons (cIx (cVar 0 "one" ⟨89, 117, 89, 120⟩) (cVar 2 "k" ⟨89, 121, 89, 122⟩) ⟨89, 117, 89, 123⟩) (caCons (cIx (cVar 1 "other" ⟨89, 125, 89, 130⟩) (cVar 2 "k" ⟨89, 131, 89, 132⟩) ⟨89, 125, 89, 133⟩) caNil)) ⟨_, _, rfl⟩ rfl rfl ⟨89, 107, 89, 116⟩ ⟨89, 107, 89, 134⟩).test) ⟨89, 103, 89, 134⟩)) (cVar 2 "k" ⟨89, 73, 89, 74⟩) { kind := PySem.ScopeKind.function, names := [((PySem.Str.ofString ".0"), PySem.NameKind.local), ((PySem.Str.ofString "k"), PySem.NameKind.local), ((PySem.Str.ofString "_law_same"), PySem.NameKind.globalImplicit), ((PySem.Str.ofString "one"), PySem.NameKind.free), ((PySem.Str.ofString "other"), PySem.NameKind.free)], isGenerator := false, isCoroutine := false, more := [] : PySem.Scope } [("k", 2)] ⟨89, 72, 89, 135⟩) (cLst false caNil ⟨89, 139, 89, 141⟩) ⟨89, 72, 89, 141⟩)))) ⟨89, 15, 89, 142⟩) ⟨89, 8, 89, 142⟩))
  cbNil ⟨88, 4, 89, 142⟩)
  (cbCons (csIf (ctBo (CTl.or ((cIsi "bool" (cVar 0 "one" ⟨90, 18, 90, 21⟩) "bool" (by decide +kernel) ⟨90, 7, 90, 17⟩ ⟨90, 23, 90, 27⟩ ⟨90, 7, 90, 28⟩).test) (CTl.one2 ((cIsi "bool" (cVar 1 "other" ⟨90, 43, 90, 48⟩) "bool" (by decide +kernel) ⟨90, 32, 90, 42⟩ ⟨90, 50, 90, 54⟩ ⟨90, 32, 90, 55⟩).test))) ⟨90, 7, 90, 55⟩)
  (cbOne (csRet (cBo (CBl.and (cIsi "bool" (cVar 0 "one" ⟨91, 26, 91, 29⟩) "bool" (by decide +kernel) ⟨91, 15, 91, 25⟩ ⟨91, 31, 91, 35⟩ ⟨91, 15, 91, 36⟩) (CBl.and (cIsi "bool" (cVar 1 "other" ⟨91, 52, 91, 57⟩) "bool" (by decide +kernel) ⟨91, 41, 91, 51⟩ ⟨91, 59, 91, 63⟩ ⟨91, 41, 91, 64⟩) (CBl.one (cCmp co_eq (cVar 0 "one" ⟨91, 70, 91, 73⟩) (cVar 1 "other" ⟨91, 77, 91, 82⟩) ⟨91, 70, 91, 82⟩)))) ⟨91, 15, 91, 83⟩) ⟨91, 8, 91, 83⟩))
  cbNil ⟨90, 4, 91, 83⟩)
  (cbOne (csRet (cBo (CBl.and (cCmp co_eq (cIsi "int" (cVar 0 "one" ⟨92, 22, 92, 25⟩) "int" (by decide +kernel) ⟨92, 11, 92, 21⟩ ⟨92, 27, 92, 30⟩ ⟨92, 11, 92, 31⟩) (cIsi "int" (cVar 1 "other" ⟨92, 46, 92, 51⟩) "int" (by decide +kernel) ⟨92, 35, 92, 45⟩ ⟨92, 53, 92, 56⟩ ⟨92, 35, 92, 57⟩) ⟨92, 11, 92, 57⟩) (CBl.and (cCmp co_eq (cIsi "str" (cVar 0 "one" ⟨92, 73, 92, 76⟩) "str" (by decide +kernel) ⟨92, 62, 92, 72⟩ ⟨92, 78, 92, 81⟩ ⟨92, 62, 92, 82⟩) (cIsi "str" (cVar 1 "other" ⟨92, 97, 92, 102⟩) "str" (by decide +kernel) ⟨92, 86, 92, 96⟩ ⟨92, 104, 92, 107⟩ ⟨92, 86, 92, 108⟩) ⟨92, 62, 92, 108⟩) (CBl.one (cCmp co_eq (cVar 0 "one" ⟨92, 114, 92, 117⟩) (cVar 1 "other" ⟨92, 121, 92, 126⟩) ⟨92, 114, 92, 126⟩)))) ⟨92, 11, 92, 127⟩) ⟨92, 4, 92, 127⟩))))
/-- _law_any_table -/
def b21 :=
  (cbCons (csPar2 2 3 "high" "rows" ⟨94, 4, 94, 8⟩ ⟨94, 10, 94, 14⟩ 0 ⟨94, 4, 94, 14⟩ (cFn 19 "_law_pick" ["pool", "some"] (caCons (cVar 0 "pool" ⟨94, 28, 94, 32⟩) (caCons (cLst false (caCons (cInt 1 0 ⟨94, 35, 94, 36⟩) (caCons (cInt 2 0 ⟨94, 38, 94, 39⟩) (caCons (cInt 5 0 ⟨94, 41, 94, 42⟩) (caCons (cInt 999 0 ⟨94, 44, 94, 47⟩) caNil)))) ⟨94, 34, 94, 48⟩) caNil)) ⟨_, _, rfl⟩ rfl rfl ⟨94, 18, 94, 27⟩ ⟨94, 18, 94, 49⟩) (cLc false (ciRng1 (cVar 1 "many" ⟨94, 82, 94, 86⟩) ⟨94, 76, 94, 81⟩ ⟨94, 76, 94, 87⟩) (cnName 6 "place" ⟨94, 67, 94, 72⟩) ctsNil (cBin co_mulM (cLst false (caCons (cInt 0 0 ⟨94, 53, 94, 54⟩) caNil) ⟨94, 52, 94, 55⟩) (cVar 1 "many" ⟨94, 58, 94, 62⟩) ⟨94, 52, 94, 62⟩) { kind := PySem.ScopeKind.function, names := [((PySem.Str.ofString ".0"), PySem.NameKind.local), ((PySem.Str.ofString "place"), PySem.NameKind.local), ((PySem.Str.ofString "many"), PySem.NameKind.free)], isGenerator := false, isCoroutine := false, more := [] : PySem.Scope } [("place", 6)] ⟨94, 51, 94, 88⟩) 0 ⟨94, 17, 94, 89⟩ ⟨94, 4, 94, 89⟩)
  (cbCons (csFor (ciRng1 (cVar 1 "many" ⟨95, 21, 95, 25⟩) ⟨95, 15, 95, 20⟩ ⟨95, 15, 95, 26⟩) (cgName 4 "one" ⟨95, 8, 95, 11⟩)
  (cbOne (csFor (ciRng1 (cVar 4 "one" ⟨96, 25, 96, 28⟩) ⟨96, 19, 96, 24⟩ ⟨96, 19, 96, 29⟩) (cgName 5 "two" ⟨96, 12, 96, 15⟩)
  (cbCons (csAsg (cgSub (cIx (cVar 3 "rows" ⟨97, 12, 97, 16⟩) (cVar 4 "one" ⟨97, 17, 97, 20⟩) ⟨97, 12, 97, 21⟩) (cVar 5 "two" ⟨97, 22, 97, 25⟩) ⟨97, 12, 97, 26⟩) (cFn 18 "_law_draw" ["pool", "many"] (caCons (cVar 0 "pool" ⟨97, 39, 97, 43⟩) (caCons (cBin co_add (cVar 2 "high" ⟨97, 45, 97, 49⟩) (cInt 1 0 ⟨97, 52, 97, 53⟩) ⟨97, 45, 97, 53⟩) caNil)) ⟨_, _, rfl⟩ rfl rfl ⟨97, 29, 97, 38⟩ ⟨97, 29, 97, 54⟩) ⟨97, 12, 97, 54⟩)
  (cbOne (csAsg (cgSub (cIx (cVar 3 "rows" ⟨98, 12, 98, 16⟩) (cVar 5 "two" ⟨98, 17, 98, 20⟩) ⟨98, 12, 98, 21⟩) (cVar 4 "one" ⟨98, 22, 98, 25⟩) ⟨98, 12, 98, 26⟩) (cIx (cIx (cVar 3 "rows" ⟨98, 29, 98, 33⟩) (cVar 4 "one" ⟨98, 34, 98, 37⟩) ⟨98, 29, 98, 38⟩) (cVar 5 "two" ⟨98, 39, 98, 42⟩) ⟨98, 29, 98, 43⟩) ⟨98, 12, 98, 43⟩))) ⟨96, 8, 98, 43⟩)) ⟨95, 4, 98, 43⟩)
  (cbOne (csRet (cCallT "tuple" "tuple" (by decide +kernel) cf_tuple (caCons (cLc false (ciSeq (cVar 3 "rows" ⟨99, 40, 99, 44⟩)) (cnName 7 "row" ⟨99, 33, 99, 36⟩) ctsNil (cCallT "tuple" "tuple" (by decide +kernel) cf_tuple (caCons (cVar 7 "row" ⟨99, 24, 99, 27⟩) caNil) ⟨_, _, rfl⟩ rfl ⟨99, 18, 99, 23⟩ ⟨99, 18, 99, 28⟩) { kind := PySem.ScopeKind.function, names := [((PySem.Str.ofString ".0"), PySem.NameKind.local), ((PySem.Str.ofString "row"), PySem.NameKind.local), ((PySem.Str.ofString "tuple"), PySem.NameKind.globalImplicit)], isGenerator := false, isCoroutine := false, more := [] : PySem.Scope } [("row", 7)] ⟨99, 17, 99, 45⟩) caNil) ⟨_, _, rfl⟩ rfl ⟨99, 11, 99, 16⟩ ⟨99, 11, 99, 46⟩) ⟨99, 4, 99, 46⟩))))
/-- _law_tree_table -/
def b22 :=
  (cbCons (csSet 2 "size" ⟨101, 4, 101, 8⟩ (cBin co_add (cVar 1 "many" ⟨101, 11, 101, 15⟩) (cFn 18 "_law_draw" ["pool", "many"] (caCons (cVar 0 "pool" ⟨101, 28, 101, 32⟩) (caCons (cInt 4 0 ⟨101, 34, 101, 35⟩) caNil)) ⟨_, _, rfl⟩ rfl rfl ⟨101, 18, 101, 27⟩ ⟨101, 18, 101, 36⟩) ⟨101, 11, 101, 36⟩) ⟨101, 4, 101, 36⟩)
  (cbCons (csTupQ (cgsCons (cgName 4 "far" ⟨102, 4, 102, 7⟩) (cgsCons (cgName 5 "high" ⟨102, 9, 102, 13⟩) cgsNil)) (cTup (caCons (cLc false (ciRng1 (cVar 2 "size" ⟨102, 48, 102, 52⟩) ⟨102, 42, 102, 47⟩ ⟨102, 42, 102, 53⟩) (cnName 3 "place" ⟨102, 33, 102, 38⟩) ctsNil (cBin co_mulM (cLst false (caCons (cInt 0 0 ⟨102, 19, 102, 20⟩) caNil) ⟨102, 18, 102, 21⟩) (cVar 2 "size" ⟨102, 24, 102, 28⟩) ⟨102, 18, 102, 28⟩) { kind := PySem.ScopeKind.function, names := [((PySem.Str.ofString ".0"), PySem.NameKind.local), ((PySem.Str.ofString "place"), PySem.NameKind.local), ((PySem.Str.ofString "size"), PySem.NameKind.free)], isGenerator := false, isCoroutine := false, more := [] : PySem.Scope } [("place", 3)] ⟨102, 17, 102, 54⟩) (caCons (cFn 19 "_law_pick" ["pool", "some"] (caCons (cVar 0 "pool" ⟨102, 66, 102, 70⟩) (caCons (cLst false (caCons (cInt 1 0 ⟨102, 73, 102, 74⟩) (caCons (cInt 3 0 ⟨102, 76, 102, 77⟩) (caCons (cInt 40 0 ⟨102, 79, 102, 81⟩) caNil))) ⟨102, 72, 102, 82⟩) caNil)) ⟨_, _, rfl⟩ rfl rfl ⟨102, 56, 102, 65⟩ ⟨102, 56, 102, 83⟩) caNil)) 0 ⟨102, 16, 102, 84⟩) 0 ⟨102, 4, 102, 13⟩ ⟨102, 4, 102, 84⟩)
  (cbCons (csFor (ciRng2 (cInt 1 0 ⟨103, 23, 103, 24⟩) (cVar 2 "size" ⟨103, 26, 103, 30⟩) ⟨103, 17, 103, 22⟩ ⟨103, 17, 103, 31⟩) (cgName 3 "place" ⟨103, 8, 103, 13⟩)
  (cbCons (csPar2 6 7 "root" "gap" ⟨104, 8, 104, 12⟩ ⟨104, 14, 104, 17⟩ 0 ⟨104, 8, 104, 17⟩ (cFn 18 "_law_draw" ["pool", "many"] (caCons (cVar 0 "pool" ⟨104, 31, 104, 35⟩) (caCons (cVar 3 "place" ⟨104, 37, 104, 42⟩) caNil)) ⟨_, _, rfl⟩ rfl rfl ⟨104, 21, 104, 30⟩ ⟨104, 21, 104, 43⟩) (cFn 18 "_law_draw" ["pool", "many"] (caCons (cVar 0 "pool" ⟨104, 55, 104, 59⟩) (caCons (cBin co_add (cVar 5 "high" ⟨104, 61, 104, 65⟩) (cInt 1 0 ⟨104, 68, 104, 69⟩) ⟨104, 61, 104, 69⟩) caNil)) ⟨_, _, rfl⟩ rfl rfl ⟨104, 45, 104, 54⟩ ⟨104, 45, 104, 70⟩) 0 ⟨104, 20, 104, 71⟩ ⟨104, 8, 104, 71⟩)
  (cbOne (csFor (ciRng1 (cVar 3 "place" ⟨105, 27, 105, 32⟩) ⟨105, 21, 105, 26⟩ ⟨105, 21, 105, 33⟩) (cgName 8 "other" ⟨105, 12, 105, 17⟩)
  (cbCons (csAsg (cgSub (cIx (cVar 4 "far" ⟨106, 12, 106, 15⟩) (cVar 3 "place" ⟨106, 16, 106, 21⟩) ⟨106, 12, 106, 22⟩) (cVar 8 "other" ⟨106, 23, 106, 28⟩) ⟨106, 12, 106, 29⟩) (cBin co_add (cIx (cIx (cVar 4 "far" ⟨106, 32, 106, 35⟩) (cVar 6 "root" ⟨106, 36, 106, 40⟩) ⟨106, 32, 106, 41⟩) (cVar 8 "other" ⟨106, 42, 106, 47⟩) ⟨106, 32, 106, 48⟩) (cVar 7 "gap" ⟨106, 51, 106, 54⟩) ⟨106, 32, 106, 54⟩) ⟨106, 12, 106, 54⟩)
  (cbOne (csAsg (cgSub (cIx (cVar 4 "far" ⟨107, 12, 107, 15⟩) (cVar 8 "other" ⟨107, 16, 107, 21⟩) ⟨107, 12, 107, 22⟩) (cVar 3 "place" ⟨107, 23, 107, 28⟩) ⟨107, 12, 107, 29⟩) (cIx (cIx (cVar 4 "far" ⟨107, 32, 107, 35⟩) (cVar 3 "place" ⟨107, 36, 107, 41⟩) ⟨107, 32, 107, 42⟩) (cVar 8 "other" ⟨107, 43, 107, 48⟩) ⟨107, 32, 107, 49⟩) ⟨107, 12, 107, 49⟩))) ⟨105, 8, 107, 49⟩))) ⟨103, 4, 107, 49⟩)
  (cbCons (csSet 9 "some" ⟨108, 4, 108, 8⟩ (cSl false (cFn 24 "_law_mixed" ["pool", "many"] (caCons (cVar 0 "pool" ⟨108, 22, 108, 26⟩) (caCons (cVar 2 "size" ⟨108, 28, 108, 32⟩) caNil)) ⟨_, _, rfl⟩ rfl rfl ⟨108, 11, 108, 21⟩ ⟨108, 11, 108, 33⟩) coNo (coSo (cVar 1 "many" ⟨108, 35, 108, 39⟩)) ⟨108, 34, 108, 39⟩ ⟨108, 11, 108, 40⟩) ⟨108, 4, 108, 40⟩)
  (cbOne (csRet (cCallT "tuple" "tuple" (by decide +kernel) cf_tuple (caCons (cLc false (ciSeq (cVar 9 "some" ⟨109, 68, 109, 72⟩)) (cnName 10 "one" ⟨109, 61, 109, 64⟩) ctsNil (cCallT "tuple" "tuple" (by decide +kernel) cf_tuple (caCons (cLc false (ciSeq (cVar 9 "some" ⟨109, 50, 109, 54⟩)) (cnName 11 "two" ⟨109, 43, 109, 46⟩) ctsNil (cIx (cIx (cVar 4 "far" ⟨109, 25, 109, 28⟩) (cVar 10 "one" ⟨109, 29, 109, 32⟩) ⟨109, 25, 109, 33⟩) (cVar 11 "two" ⟨109, 34, 109, 37⟩) ⟨109, 25, 109, 38⟩) { kind := PySem.ScopeKind.function, names := [((PySem.Str.ofString ".0"), PySem.NameKind.local), ((PySem.Str.ofString "two"), PySem.NameKind.local), ((PySem.Str.ofString "far"), PySem.NameKind.free), ((PySem.Str.ofString "one"), PySem.NameKind.free)], isGenerator := false, isCoroutine := false, more := [] : PySem.Scope } [("two", 11)] ⟨109, 24, 109, 55⟩) caNil) ⟨_, _, rfl⟩ rfl ⟨109, 18, 109, 23⟩ ⟨109, 18, 109, 56⟩) { kind := PySem.ScopeKind.function, names := [((PySem.Str.ofString ".0"), PySem.NameKind.local), ((PySem.Str.ofString "one"), PySem.NameKind.cell), ((PySem.Str.ofString "tuple"), PySem.NameKind.globalImplicit), ((PySem.Str.ofString "far"), PySem.NameKind.free), ((PySem.Str.ofString "some"), PySem.NameKind.free)], isGenerator := false, isCoroutine := false, more := [] : PySem.Scope } [("one", 10)] ⟨109, 17, 109, 73⟩) caNil) ⟨_, _, rfl⟩ rfl ⟨109, 11, 109, 16⟩ ⟨109, 11, 109, 74⟩) ⟨109, 4, 109, 74⟩))))))
/-- _law_cut_table -/
def b23 :=
  (cbCons (csSet 2 "many" ⟨111, 4, 111, 8⟩ (cCallB "len" "len" (by decide +kernel) cf_len (caCons (cVar 1 "ring" ⟨111, 15, 111, 19⟩) caNil) ⟨_, _, rfl⟩ rfl ⟨111, 11, 111, 14⟩ ⟨111, 11, 111, 20⟩) ⟨111, 4, 111, 20⟩)
  (cbCons (csPar2 3 4 "rows" "high" ⟨112, 4, 112, 8⟩ ⟨112, 10, 112, 14⟩ 0 ⟨112, 4, 112, 14⟩ (cLc false (ciRng1 (cVar 2 "many" ⟨112, 49, 112, 53⟩) ⟨112, 43, 112, 48⟩ ⟨112, 43, 112, 54⟩) (cnName 11 "place" ⟨112, 34, 112, 39⟩) ctsNil (cBin co_mulM (cLst false (caCons (cInt 0 0 ⟨112, 20, 112, 21⟩) caNil) ⟨112, 19, 112, 22⟩) (cVar 2 "many" ⟨112, 25, 112, 29⟩) ⟨112, 19, 112, 29⟩) { kind := PySem.ScopeKind.function, names := [((PySem.Str.ofString ".0"), PySem.NameKind.local), ((PySem.Str.ofString "place"), PySem.NameKind.local), ((PySem.Str.ofString "many"), PySem.NameKind.free)], isGenerator := false, isCoroutine := false, more := [] : PySem.Scope } [("place", 11)] ⟨112, 18, 112, 55⟩) (cFn 19 "_law_pick" ["pool", "some"] (caCons (cVar 0 "pool" ⟨112, 67, 112, 71⟩) (caCons (cLst false (caCons (cInt 1 0 ⟨112, 74, 112, 75⟩) (caCons (cInt 3 0 ⟨112, 77, 112, 78⟩) (caCons (cInt 20 0 ⟨112, 80, 112, 82⟩) caNil))) ⟨112, 73, 112, 83⟩) caNil)) ⟨_, _, rfl⟩ rfl rfl ⟨112, 57, 112, 66⟩ ⟨112, 57, 112, 84⟩) 0 ⟨112, 17, 112, 85⟩ ⟨112, 4, 112, 85⟩)
  (cbCons (csFor (ciRng1 (cVar 2 "many" ⟨113, 23, 113, 27⟩) ⟨113, 17, 113, 22⟩ ⟨113, 17, 113, 28⟩) (cgName 5 "start" ⟨113, 8, 113, 13⟩)
  (cbOne (csFor (ciRng2 (cBin co_add (cVar 5 "start" ⟨114, 26, 114, 31⟩) (cInt 1 0 ⟨114, 34, 114, 35⟩) ⟨114, 26, 114, 35⟩) (cVar 2 "many" ⟨114, 37, 114, 41⟩) ⟨114, 20, 114, 25⟩ ⟨114, 20, 114, 42⟩) (cgName 6 "stop" ⟨114, 12, 114, 16⟩)
  (cbCons (csPar2 7 8 "inside" "number" ⟨115, 12, 115, 18⟩ ⟨115, 20, 115, 26⟩ 0 ⟨115, 12, 115, 26⟩ (cSl false (cVar 1 "ring" ⟨115, 30, 115, 34⟩) (coSo (cVar 5 "start" ⟨115, 35, 115, 40⟩)) (coSo (cVar 6 "stop" ⟨115, 41, 115, 45⟩)) ⟨115, 35, 115, 45⟩ ⟨115, 30, 115, 46⟩) (cFn 19 "_law_pick" ["pool", "some"] (caCons (cVar 0 "pool" ⟨115, 58, 115, 62⟩) (caCons (cLst false (caCons (cInt 0 0 ⟨115, 65, 115, 66⟩) (caCons (cFn 18 "_law_draw" ["pool", "many"] (caCons (cVar 0 "pool" ⟨115, 78, 115, 82⟩) (caCons (cBin co_add (cVar 4 "high" ⟨115, 84, 115, 88⟩) (cInt 1 0 ⟨115, 91, 115, 92⟩) ⟨115, 84, 115, 92⟩) caNil)) ⟨_, _, rfl⟩ rfl rfl ⟨115, 68, 115, 77⟩ ⟨115, 68, 115, 93⟩) caNil)) ⟨115, 64, 115, 94⟩) caNil)) ⟨_, _, rfl⟩ rfl rfl ⟨115, 48, 115, 57⟩ ⟨115, 48, 115, 95⟩) 0 ⟨115, 29, 115, 96⟩ ⟨115, 12, 115, 96⟩)
  (cbOne (csFor (ciRng1 (cVar 2 "many" ⟨116, 29, 116, 33⟩) ⟨116, 23, 116, 28⟩ ⟨116, 23, 116, 34⟩) (cgName 9 "one" ⟨116, 16, 116, 19⟩)
  (cbOne (csFor (ciRng1 (cVar 2 "many" ⟨117, 33, 117, 37⟩) ⟨117, 27, 117, 32⟩ ⟨117, 27, 117, 38⟩) (cgName 10 "two" ⟨117, 20, 117, 23⟩)
  (cbOne (csIf (ctCmp co_ne (cCmp co_in (cVar 9 "one" ⟨118, 24, 118, 27⟩) (cVar 7 "inside" ⟨118, 31, 118, 37⟩) ⟨118, 24, 118, 37⟩) (cCmp co_in (cVar 10 "two" ⟨118, 43, 118, 46⟩) (cVar 7 "inside" ⟨118, 50, 118, 56⟩) ⟨118, 43, 118, 56⟩) ⟨118, 23, 118, 57⟩)
  (cbOne (csAsg (cgSub (cIx (cVar 3 "rows" ⟨119, 24, 119, 28⟩) (cVar 9 "one" ⟨119, 29, 119, 32⟩) ⟨119, 24, 119, 33⟩) (cVar 10 "two" ⟨119, 34, 119, 37⟩) ⟨119, 24, 119, 38⟩) (cBin co_add (cIx (cIx (cVar 3 "rows" ⟨119, 41, 119, 45⟩) (cVar 9 "one" ⟨119, 46, 119, 49⟩) ⟨119, 41, 119, 50⟩) (cVar 10 "two" ⟨119, 51, 119, 54⟩) ⟨119, 41, 119, 55⟩) (cVar 8 "number" ⟨119, 58, 119, 64⟩) ⟨119, 41, 119, 64⟩) ⟨119, 24, 119, 64⟩))
  cbNil ⟨118, 20, 119, 64⟩)) ⟨117, 16, 119, 64⟩)) ⟨116, 12, 119, 64⟩))) ⟨114, 8, 119, 64⟩)) ⟨113, 4, 119, 64⟩)
  (cbOne (csRet (cCallT "tuple" "tuple" (by decide +kernel) cf_tuple (caCons (cLc false (ciSeq (cVar 3 "rows" ⟨120, 40, 120, 44⟩)) (cnName 12 "row" ⟨120, 33, 120, 36⟩) ctsNil (cCallT "tuple" "tuple" (by decide +kernel) cf_tuple (caCons (cVar 12 "row" ⟨120, 24, 120, 27⟩) caNil) ⟨_, _, rfl⟩ rfl ⟨120, 18, 120, 23⟩ ⟨120, 18, 120, 28⟩) { kind := PySem.ScopeKind.function, names := [((PySem.Str.ofString ".0"), PySem.NameKind.local), ((PySem.Str.ofString "row"), PySem.NameKind.local), ((PySem.Str.ofString "tuple"), PySem.NameKind.globalImplicit)], isGenerator := false, isCoroutine := false, more := [] : PySem.Scope } [("row", 12)] ⟨120, 17, 120, 45⟩) caNil) ⟨_, _, rfl⟩ rfl ⟨120, 11, 120, 16⟩ ⟨120, 11, 120, 46⟩) ⟨120, 4, 120, 46⟩)))))
/-- _law_mixed -/
def b24 :=
  (cbCons (csPar2 2 3 "left" "found" ⟨122, 4, 122, 8⟩ ⟨122, 10, 122, 15⟩ 0 ⟨122, 4, 122, 15⟩ (cListRg1 false (cVar 1 "many" ⟨122, 30, 122, 34⟩) ⟨122, 19, 122, 23⟩ ⟨122, 24, 122, 29⟩ ⟨122, 24, 122, 35⟩ ⟨122, 19, 122, 36⟩) (cTup caNil 0 ⟨122, 38, 122, 40⟩) 0 ⟨122, 18, 122, 41⟩ ⟨122, 4, 122, 41⟩)
  (cbCons (csFor (ciRng1 (cVar 1 "many" ⟨123, 21, 123, 25⟩) ⟨123, 15, 123, 20⟩ ⟨123, 15, 123, 26⟩) (cgName 4 "lap" ⟨123, 8, 123, 11⟩)
  (cbCons (csSet 5 "place" ⟨124, 8, 124, 13⟩ (cFn 19 "_law_pick" ["pool", "some"] (caCons (cVar 0 "pool" ⟨124, 26, 124, 30⟩) (caCons (cVar 2 "left" ⟨124, 32, 124, 36⟩) caNil)) ⟨_, _, rfl⟩ rfl rfl ⟨124, 16, 124, 25⟩ ⟨124, 16, 124, 37⟩) ⟨124, 8, 124, 37⟩)
  (cbOne (csPar2 2 3 "left" "found" ⟨125, 8, 125, 12⟩ ⟨125, 14, 125, 19⟩ 0 ⟨125, 8, 125, 19⟩ (cLc false (ciSeq (cVar 2 "left" ⟨125, 41, 125, 45⟩)) (cnName 6 "each" ⟨125, 33, 125, 37⟩) (ctsOne (ctCmp co_ne (cVar 6 "each" ⟨125, 49, 125, 53⟩) (cVar 5 "place" ⟨125, 57, 125, 62⟩) ⟨125, 49, 125, 62⟩)) (cVar 6 "each" ⟨125, 24, 125, 28⟩) { kind := PySem.ScopeKind.function, names := [((PySem.Str.ofString ".0"), PySem.NameKind.local), ((PySem.Str.ofString "each"), PySem.NameKind.local), ((PySem.Str.ofString "place"), PySem.NameKind.free)], isGenerator := false, isCoroutine := false, more := [] : PySem.Scope } [("each", 6)] ⟨125, 23, 125, 63⟩) (cBin co_add (cVar 3 "found" ⟨125, 65, 125, 70⟩) (cTup (caCons (cVar 5 "place" ⟨125, 74, 125, 79⟩) caNil) 0 ⟨125, 73, 125, 81⟩) ⟨125, 65, 125, 81⟩) 0 ⟨125, 22, 125, 82⟩ ⟨125, 8, 125, 82⟩))) ⟨123, 4, 125, 82⟩)
  (cbOne (csRet (cVar 3 "found" ⟨126, 11, 126, 16⟩) ⟨126, 4, 126, 16⟩))))
/-- _law_table -/
def b25 :=
  (cbCons (csSet 2 "sort" ⟨128, 4, 128, 8⟩ (cFn 18 "_law_draw" ["pool", "many"] (caCons (cVar 0 "pool" ⟨128, 21, 128, 25⟩) (caCons (cInt 4 0 ⟨128, 27, 128, 28⟩) caNil)) ⟨_, _, rfl⟩ rfl rfl ⟨128, 11, 128, 20⟩ ⟨128, 11, 128, 29⟩) ⟨128, 4, 128, 29⟩)
  (cbCons (csIf (ctCmp co_eq (cVar 2 "sort" ⟨129, 7, 129, 11⟩) (cInt 0 0 ⟨129, 15, 129, 16⟩) ⟨129, 7, 129, 16⟩)
  (cbOne (csRet (cFn 22 "_law_tree_table" ["pool", "many"] (caCons (cVar 0 "pool" ⟨130, 31, 130, 35⟩) (caCons (cVar 1 "many" ⟨130, 37, 130, 41⟩) caNil)) ⟨_, _, rfl⟩ rfl rfl ⟨130, 15, 130, 30⟩ ⟨130, 15, 130, 42⟩) ⟨130, 8, 130, 42⟩))
  cbNil ⟨129, 4, 130, 42⟩)
  (cbCons (csIf (ctCmp co_eq (cVar 2 "sort" ⟨131, 7, 131, 11⟩) (cInt 1 0 ⟨131, 15, 131, 16⟩) ⟨131, 7, 131, 16⟩)
  (cbOne (csRet (cFn 23 "_law_cut_table" ["pool", "ring"] (caCons (cVar 0 "pool" ⟨132, 30, 132, 34⟩) (caCons (cFn 24 "_law_mixed" ["pool", "many"] (caCons (cVar 0 "pool" ⟨132, 47, 132, 51⟩) (caCons (cVar 1 "many" ⟨132, 53, 132, 57⟩) caNil)) ⟨_, _, rfl⟩ rfl rfl ⟨132, 36, 132, 46⟩ ⟨132, 36, 132, 58⟩) caNil)) ⟨_, _, rfl⟩ rfl rfl ⟨132, 15, 132, 29⟩ ⟨132, 15, 132, 59⟩) ⟨132, 8, 132, 59⟩))
  cbNil ⟨131, 4, 132, 59⟩)
  (cbCons (csIf (ctCmp co_eq (cVar 2 "sort" ⟨133, 7, 133, 11⟩) (cInt 2 0 ⟨133, 15, 133, 16⟩) ⟨133, 7, 133, 16⟩)
  (cbCons (csSetQ 3 "spots" ⟨134, 8, 134, 13⟩ (cLc false (ciRng1 (cVar 1 "many" ⟨134, 56, 134, 60⟩) ⟨134, 50, 134, 55⟩ ⟨134, 50, 134, 61⟩) (cnName 4 "place" ⟨134, 41, 134, 46⟩) ctsNil (cFn 18 "_law_draw" ["pool", "many"] (caCons (cVar 0 "pool" ⟨134, 27, 134, 31⟩) (caCons (cInt 30 0 ⟨134, 33, 134, 35⟩) caNil)) ⟨_, _, rfl⟩ rfl rfl ⟨134, 17, 134, 26⟩ ⟨134, 17, 134, 36⟩) { kind := PySem.ScopeKind.function, names := [((PySem.Str.ofString ".0"), PySem.NameKind.local), ((PySem.Str.ofString "place"), PySem.NameKind.local), ((PySem.Str.ofString "_law_draw"), PySem.NameKind.globalImplicit), ((PySem.Str.ofString "pool"), PySem.NameKind.free)], isGenerator := false, isCoroutine := false, more := [] : PySem.Scope } [("place", 4)] ⟨134, 16, 134, 62⟩) ⟨134, 8, 134, 62⟩)
  (cbOne (csRet (cCallT "tuple" "tuple" (by decide +kernel) cf_tuple (caCons (cLc false (ciSeq (cVar 3 "spots" ⟨135, 74, 135, 79⟩)) (cnName 5 "one" ⟨135, 67, 135, 70⟩) ctsNil (cCallT "tuple" "tuple" (by decide +kernel) cf_tuple (caCons (cLc false (ciSeq (cVar 3 "spots" ⟨135, 55, 135, 60⟩)) (cnName 6 "two" ⟨135, 48, 135, 51⟩) ctsNil (cCallB "abs" "abs" (by decide +kernel) cf_abs (caCons (cBin co_sub (cVar 5 "one" ⟨135, 33, 135, 36⟩) (cVar 6 "two" ⟨135, 39, 135, 42⟩) ⟨135, 33, 135, 42⟩) caNil) ⟨_, _, rfl⟩ rfl ⟨135, 29, 135, 32⟩ ⟨135, 29, 135, 43⟩) { kind := PySem.ScopeKind.function, names := [((PySem.Str.ofString ".0"), PySem.NameKind.local), ((PySem.Str.ofString "two"), PySem.NameKind.local), ((PySem.Str.ofString "abs"), PySem.NameKind.globalImplicit), ((PySem.Str.ofString "one"), PySem.NameKind.free)], isGenerator := false, isCoroutine := false, more := [] : PySem.Scope } [("two", 6)] ⟨135, 28, 135, 61⟩) caNil) ⟨_, _, rfl⟩ rfl ⟨135, 22, 135, 27⟩ ⟨135, 22, 135, 62⟩) { kind := PySem.ScopeKind.function, names := [((PySem.Str.ofString ".0"), PySem.NameKind.local), ((PySem.Str.ofString "one"), PySem.NameKind.cell), ((PySem.Str.ofString "tuple"), PySem.NameKind.globalImplicit), ((PySem.Str.ofString "spots"), PySem.NameKind.free)], isGenerator := false, isCoroutine := false, more := [] : PySem.Scope } [("one", 5)] ⟨135, 21, 135, 80⟩) caNil) ⟨_, _, rfl⟩ rfl ⟨135, 15, 135, 20⟩ ⟨135, 15, 135, 81⟩) ⟨135, 8, 135, 81⟩)))
  cbNil ⟨133, 4, 135, 81⟩)
  (cbOne (csRet (cFn 21 "_law_any_table" ["pool", "many"] (caCons (cVar 0 "pool" ⟨136, 26, 136, 30⟩) (caCons (cVar 1 "many" ⟨136, 32, 136, 36⟩) caNil)) ⟨_, _, rfl⟩ rfl rfl ⟨136, 11, 136, 25⟩ ⟨136, 11, 136, 37⟩) ⟨136, 4, 136, 37⟩))))))
/-- _law_orders -/
def b26 :=
  (cbCons (csSet 1 "found" ⟨138, 4, 138, 9⟩ (cLst false (caCons (cTup caNil 0 ⟨138, 13, 138, 15⟩) caNil) ⟨138, 12, 138, 16⟩) ⟨138, 4, 138, 16⟩)
  (cbCons (csFor (ciRng1 (cCallB "len" "len" (by decide +kernel) cf_len (caCons (cVar 0 "some" ⟨139, 25, 139, 29⟩) caNil) ⟨_, _, rfl⟩ rfl ⟨139, 21, 139, 24⟩ ⟨139, 21, 139, 30⟩) ⟨139, 15, 139, 20⟩ ⟨139, 15, 139, 31⟩) (cgName 2 "lap" ⟨139, 8, 139, 11⟩)
  (cbCons (csSet 3 "more" ⟨140, 8, 140, 12⟩ (cLst false caNil ⟨140, 15, 140, 17⟩) ⟨140, 8, 140, 17⟩)
  (cbCons (csFor (ciSeq (cVar 1 "found" ⟨141, 19, 141, 24⟩)) (cgName 4 "row" ⟨141, 12, 141, 15⟩)
  (cbOne (csSet 3 "more" ⟨142, 12, 142, 16⟩ (cBin co_add (cVar 3 "more" ⟨142, 19, 142, 23⟩) (cLc false (ciSeq (cVar 0 "some" ⟨142, 55, 142, 59⟩)) (cnName 5 "place" ⟨142, 46, 142, 51⟩) (ctsOne (ctCmp co_notIn (cVar 5 "place" ⟨142, 63, 142, 68⟩) (cVar 4 "row" ⟨142, 76, 142, 79⟩) ⟨142, 63, 142, 79⟩)) (cBin co_add (cVar 4 "row" ⟨142, 27, 142, 30⟩) (cTup (caCons (cVar 5 "place" ⟨142, 34, 142, 39⟩) caNil) 0 ⟨142, 33, 142, 41⟩) ⟨142, 27, 142, 41⟩) { kind := PySem.ScopeKind.function, names := [((PySem.Str.ofString ".0"), PySem.NameKind.local), ((PySem.Str.ofString "place"), PySem.NameKind.local), ((PySem.Str.ofString "row"), PySem.NameKind.free)], isGenerator := false, isCoroutine := false, more := [] : PySem.Scope } [("place", 5)] ⟨142, 26, 142, 80⟩) ⟨142, 19, 142, 80⟩) ⟨142, 12, 142, 80⟩)) ⟨141, 8, 142, 80⟩)
  (cbOne (csSet 1 "found" ⟨143, 8, 143, 13⟩ (cVar 3 "more" ⟨143, 16, 143, 20⟩) ⟨143, 8, 143, 20⟩)))) ⟨139, 4, 143, 20⟩)
  (cbOne (csRet (cVar 1 "found" ⟨144, 11, 144, 16⟩) ⟨144, 4, 144, 16⟩))))
/-- _law_way -/
def b27 :=
  (cbOne (csRet (cCallB "sum" "sum" (by decide +kernel) cf_sum (caCons (cLc false (ciZip (cSl false (cVar 1 "row" ⟨146, 52, 146, 55⟩) coNo (coSo (cNeg (cInt 1 0 ⟨146, 58, 146, 59⟩) ⟨146, 57, 146, 59⟩)) ⟨146, 56, 146, 59⟩ ⟨146, 52, 146, 60⟩) (cSl false (cVar 1 "row" ⟨146, 62, 146, 65⟩) (coSo (cInt 1 0 ⟨146, 66, 146, 67⟩)) coNo ⟨146, 66, 146, 68⟩ ⟨146, 62, 146, 69⟩) ⟨146, 48, 146, 51⟩ ⟨146, 48, 146, 70⟩) (cnTup [(2, "one", ⟨146, 36, 146, 39⟩), (3, "two", ⟨146, 41, 146, 44⟩)] 0 ⟨146, 36, 146, 44⟩) ctsNil (cIx (cIx (cVar 0 "table" ⟨146, 16, 146, 21⟩) (cVar 2 "one" ⟨146, 22, 146, 25⟩) ⟨146, 16, 146, 26⟩) (cVar 3 "two" ⟨146, 27, 146, 30⟩) ⟨146, 16, 146, 31⟩) { kind := PySem.ScopeKind.function, names := [((PySem.Str.ofString ".0"), PySem.NameKind.local), ((PySem.Str.ofString "one"), PySem.NameKind.local), ((PySem.Str.ofString "two"), PySem.NameKind.local), ((PySem.Str.ofString "table"), PySem.NameKind.free)], isGenerator := false, isCoroutine := false, more := [] : PySem.Scope } [("one", 2), ("two", 3)] ⟨146, 15, 146, 71⟩) caNil) ⟨_, _, rfl⟩ rfl ⟨146, 11, 146, 14⟩ ⟨146, 11, 146, 72⟩) ⟨146, 4, 146, 72⟩))
/-- _law_right -/
def b28 :=
  (cbCons (csFor (ciSeq (cLst false (caCons (cInt 2 0 ⟨148, 17, 148, 18⟩) (caCons (cInt 3 0 ⟨148, 20, 148, 21⟩) (caCons (cInt 4 0 ⟨148, 23, 148, 24⟩) (caCons (cInt 5 0 ⟨148, 26, 148, 27⟩) (caCons (cInt 6 0 ⟨148, 29, 148, 30⟩) caNil))))) ⟨148, 16, 148, 31⟩)) (cgName 1 "many" ⟨148, 8, 148, 12⟩)
  (cbCons (csSet 2 "table" ⟨149, 8, 149, 13⟩ (cFn 25 "_law_table" ["pool", "many"] (caCons (cVar 0 "pool" ⟨149, 27, 149, 31⟩) (caCons (cVar 1 "many" ⟨149, 33, 149, 37⟩) caNil)) ⟨_, _, rfl⟩ rfl rfl ⟨149, 16, 149, 26⟩ ⟨149, 16, 149, 38⟩) ⟨149, 8, 149, 38⟩)
  (cbOne (csFor (ciRng1 (cInt 3 0 ⟨150, 25, 150, 26⟩) ⟨150, 19, 150, 24⟩ ⟨150, 19, 150, 27⟩) (cgName 3 "lap" ⟨150, 12, 150, 15⟩)
  (cbCons (csSet 4 "one" ⟨151, 12, 151, 15⟩ (cFn 18 "_law_draw" ["pool", "many"] (caCons (cVar 0 "pool" ⟨151, 28, 151, 32⟩) (caCons (cVar 1 "many" ⟨151, 34, 151, 38⟩) caNil)) ⟨_, _, rfl⟩ rfl rfl ⟨151, 18, 151, 27⟩ ⟨151, 18, 151, 39⟩) ⟨151, 12, 151, 39⟩)
  (cbCons (csSet 5 "two" ⟨152, 12, 152, 15⟩ (cBin co_mod (cCallT "int" "int" (by decide +kernel) cf_int (caCons (cBin co_add (cBin co_add (cVar 4 "one" ⟨152, 22, 152, 25⟩) (cInt 1 0 ⟨152, 28, 152, 29⟩) ⟨152, 22, 152, 29⟩) (cFn 18 "_law_draw" ["pool", "many"] (caCons (cVar 0 "pool" ⟨152, 42, 152, 46⟩) (caCons (cBin co_sub (cVar 1 "many" ⟨152, 48, 152, 52⟩) (cInt 1 0 ⟨152, 55, 152, 56⟩) ⟨152, 48, 152, 56⟩) caNil)) ⟨_, _, rfl⟩ rfl rfl ⟨152, 32, 152, 41⟩ ⟨152, 32, 152, 57⟩) ⟨152, 22, 152, 57⟩) caNil) ⟨_, _, rfl⟩ rfl ⟨152, 18, 152, 21⟩ ⟨152, 18, 152, 58⟩) (cVar 1 "many" ⟨152, 61, 152, 65⟩) ⟨152, 18, 152, 65⟩) ⟨152, 12, 152, 65⟩)
  (cbCons (csSet 6 "some" ⟨153, 12, 153, 16⟩ (cCallT "tuple" "tuple" (by decide +kernel) cf_tuple (caCons (cLc false (ciRng1 (cVar 1 "many" ⟨153, 51, 153, 55⟩) ⟨153, 45, 153, 50⟩ ⟨153, 45, 153, 56⟩) (cnName 14 "place" ⟨153, 36, 153, 41⟩) (ctsOne (ctCmp co_notIn (cVar 14 "place" ⟨153, 60, 153, 65⟩) (cTup (caCons (cVar 4 "one" ⟨153, 74, 153, 77⟩) (caCons (cVar 5 "two" ⟨153, 79, 153, 82⟩) caNil)) 0 ⟨153, 73, 153, 83⟩) ⟨153, 60, 153, 83⟩)) (cVar 14 "place" ⟨153, 26, 153, 31⟩) { kind := PySem.ScopeKind.function, names := [((PySem.Str.ofString ".0"), PySem.NameKind.local), ((PySem.Str.ofString "place"), PySem.NameKind.local), ((PySem.Str.ofString "one"), PySem.NameKind.free), ((PySem.Str.ofString "two"), PySem.NameKind.free)], isGenerator := false, isCoroutine := false, more := [] : PySem.Scope } [("place", 14)] ⟨153, 25, 153, 84⟩) caNil) ⟨_, _, rfl⟩ rfl ⟨153, 19, 153, 24⟩ ⟨153, 19, 153, 85⟩) ⟨153, 12, 153, 85⟩)
  (cbCons (csSetLc false 7 "rows" ⟨154, 12, 154, 16⟩ (ciSeq (cFn 26 "_law_orders" ["some"] (caCons (cVar 6 "some" ⟨154, 65, 154, 69⟩) caNil) ⟨_, _, rfl⟩ rfl rfl ⟨154, 53, 154, 64⟩ ⟨154, 53, 154, 70⟩)) (cnName 15 "row" ⟨154, 46, 154, 49⟩) ctsNil (cBin co_add (cBin co_add (cTup (caCons (cVar 4 "one" ⟨154, 21, 154, 24⟩) caNil) 0 ⟨154, 20, 154, 26⟩) (cVar 15 "row" ⟨154, 29, 154, 32⟩) ⟨154, 20, 154, 32⟩) (cTup (caCons (cVar 5 "two" ⟨154, 36, 154, 39⟩) caNil) 0 ⟨154, 35, 154, 41⟩) ⟨154, 20, 154, 41⟩) { kind := PySem.ScopeKind.function, names := [((PySem.Str.ofString ".0"), PySem.NameKind.local), ((PySem.Str.ofString "row"), PySem.NameKind.local), ((PySem.Str.ofString "one"), PySem.NameKind.free), ((PySem.Str.ofString "two"), PySem.NameKind.free)], isGenerator := false, isCoroutine := false, more := [] : PySem.Scope } [("row", 15)] ⟨154, 19, 154, 71⟩ ⟨154, 12, 154, 71⟩)
  (cbCons (csSetLc false 8 "lengths" ⟨155, 12, 155, 19⟩ (ciSeq (cVar 7 "rows" ⟨155, 55, 155, 59⟩)) (cnName 15 "row" ⟨155, 48, 155, 51⟩) ctsNil (cFn 27 "_law_way" ["table", "row"] (caCons (cVar 2 "table" ⟨155, 32, 155, 37⟩) (caCons (cVar 15 "row" ⟨155, 39, 155, 42⟩) caNil)) ⟨_, _, rfl⟩ rfl rfl ⟨155, 23, 155, 31⟩ ⟨155, 23, 155, 43⟩) { kind := PySem.ScopeKind.function, names := [((PySem.Str.ofString ".0"), PySem.NameKind.local), ((PySem.Str.ofString "row"), PySem.NameKind.local), ((PySem.Str.ofString "_law_way"), PySem.NameKind.globalImplicit), ((PySem.Str.ofString "table"), PySem.NameKind.free)], isGenerator := false, isCoroutine := false, more := [] : PySem.Scope } [("row", 15)] ⟨155, 22, 155, 60⟩ ⟨155, 12, 155, 60⟩)
  (cbCons (csSet 9 "dues" ⟨156, 12, 156, 16⟩ (cLst false (caCons (cCallB "min" "min" (by decide +kernel) cf_min1 (caCons (cVar 8 "lengths" ⟨156, 24, 156, 31⟩) caNil) ⟨_, _, rfl⟩ rfl ⟨156, 20, 156, 23⟩ ⟨156, 20, 156, 32⟩) (caCons (cIx (cVar 7 "rows" ⟨156, 34, 156, 38⟩) (cMtLT "index" "list.index" "tuple.index" PySem.F.slot_list_index PySem.F.type_list_index PySem.F.slot_tuple_index PySem.F.type_tuple_index cm_indexL cm_indexT (cVar 8 "lengths" ⟨156, 39, 156, 46⟩) (caCons (cCallB "min" "min" (by decide +kernel) cf_min1 (caCons (cVar 8 "lengths" ⟨156, 57, 156, 64⟩) caNil) ⟨_, _, rfl⟩ rfl ⟨156, 53, 156, 56⟩ ⟨156, 53, 156, 65⟩) caNil) ⟨_, _, rfl⟩ rfl rfl (by decide) ⟨156, 39, 156, 52⟩ ⟨156, 39, 156, 66⟩ rfl) ⟨156, 34, 156, 67⟩) caNil)) ⟨156, 19, 156, 68⟩) ⟨156, 12, 156, 68⟩)
  (cbCons (csSet 10 "told" ⟨157, 12, 157, 16⟩ (cLst false (caCons (cFn 15 "path_length" ["table", "place", "other"] (caCons (cVar 2 "table" ⟨157, 32, 157, 37⟩) (caCons (cVar 4 "one" ⟨157, 39, 157, 42⟩) (caCons (cVar 5 "two" ⟨157, 44, 157, 47⟩) caNil))) ⟨_, _, rfl⟩ rfl rfl ⟨157, 20, 157, 31⟩ ⟨157, 20, 157, 48⟩) (caCons (cFn 16 "least_path" ["table", "place", "other"] (caCons (cVar 2 "table" ⟨157, 61, 157, 66⟩) (caCons (cVar 4 "one" ⟨157, 68, 157, 71⟩) (caCons (cVar 5 "two" ⟨157, 73, 157, 76⟩) caNil))) ⟨_, _, rfl⟩ rfl rfl ⟨157, 50, 157, 60⟩ ⟨157, 50, 157, 77⟩) caNil)) ⟨157, 19, 157, 78⟩) ⟨157, 12, 157, 78⟩)
  (cbCons (csIf (ctCmp co_eq (cFn 18 "_law_draw" ["pool", "many"] (caCons (cVar 0 "pool" ⟨158, 25, 158, 29⟩) (caCons (cInt 2 0 ⟨158, 31, 158, 32⟩) caNil)) ⟨_, _, rfl⟩ rfl rfl ⟨158, 15, 158, 24⟩ ⟨158, 15, 158, 33⟩) (cInt 0 0 ⟨158, 37, 158, 38⟩) ⟨158, 15, 158, 38⟩)
  (cbOne (csSet 10 "told" ⟨159, 16, 159, 20⟩ (cLst false (caCons (cFnK0 15 "path_length" ["table", "place", "other"] ["other", "place", "table"] (ckCons "other" (cVar 5 "two" ⟨159, 42, 159, 45⟩) (ckCons "place" (cVar 4 "one" ⟨159, 53, 159, 56⟩) (ckCons "table" (cVar 2 "table" ⟨159, 64, 159, 69⟩) ckNil ⟨159, 58, 159, 69⟩) ⟨159, 47, 159, 56⟩) ⟨159, 36, 159, 45⟩) rfl (fun us ws h1 h2 => match us, ws, h1, h2 with | [], [_, _, _], _, _ => by kernel_rfl) ⟨159, 24, 159, 35⟩ ⟨159, 24, 159, 70⟩) (caCons (cFnK0 16 "least_path" ["table", "place", "other"] ["other", "place", "table"] (ckCons "other" (cVar 5 "two" ⟨159, 89, 159, 92⟩) (ckCons "place" (cVar 4 "one" ⟨159, 100, 159, 103⟩) (ckCons "table" (cVar 2 "table" ⟨159, 111, 159, 116⟩) ckNil ⟨159, 105, 159, 116⟩) ⟨159, 94, 159, 103⟩) ⟨159, 83, 159, 92⟩) rfl (fun us ws h1 h2 => match us, ws, h1, h2 with | [], [_, _, _], _, _ => by kernel_rfl) ⟨159, 72, 159, 82⟩ ⟨159, 72, 159, 117⟩) caNil)) ⟨159, 23, 159, 118⟩) ⟨159, 16, 159, 118⟩))
  cbNil ⟨158, 12, 159, 118⟩)
  (cbCons (csIf (ctBo (CTl.or (ctNot ((cFn 20 "_law_same" ["one", "other"] (caCons (cVar 10 "told" ⟨160, 29, 160, 33⟩) (caCons (cVar 9 "dues" ⟨160, 35, 160, 39⟩) caNil)) ⟨_, _, rfl⟩ rfl rfl ⟨160, 19, 160, 28⟩ ⟨160, 19, 160, 40⟩).test) ⟨160, 15, 160, 40⟩) (CTl.one2 (ctCmp co_ne (cFn 15 "path_length" ["table", "place", "other"] (caCons (cVar 2 "table" ⟨160, 56, 160, 61⟩) (caCons (cVar 5 "two" ⟨160, 63, 160, 66⟩) (caCons (cVar 4 "one" ⟨160, 68, 160, 71⟩) caNil))) ⟨_, _, rfl⟩ rfl rfl ⟨160, 44, 160, 55⟩ ⟨160, 44, 160, 72⟩) (cIx (cVar 9 "dues" ⟨160, 76, 160, 80⟩) (cInt 0 0 ⟨160, 81, 160, 82⟩) ⟨160, 76, 160, 83⟩) ⟨160, 44, 160, 83⟩))) ⟨160, 15, 160, 83⟩)
  (cbOne (csRet (cBl false 0 ⟨161, 23, 161, 28⟩) ⟨161, 16, 161, 28⟩))
  cbNil ⟨160, 12, 161, 28⟩)
  (cbOne (csIf (ctCmp co_lt (cCallB "max" "max" (by decide +kernel) cf_max1 (caCons (cLc false (ciSeq (cVar 2 "table" ⟨162, 40, 162, 45⟩)) (cnName 15 "row" ⟨162, 33, 162, 36⟩) ctsNil (cCallB "max" "max" (by decide +kernel) cf_max1 (caCons (cVar 15 "row" ⟨162, 24, 162, 27⟩) caNil) ⟨_, _, rfl⟩ rfl ⟨162, 20, 162, 23⟩ ⟨162, 20, 162, 28⟩) { kind := PySem.ScopeKind.function, names := [((PySem.Str.ofString ".0"), PySem.NameKind.local), ((PySem.Str.ofString "row"), PySem.NameKind.local), ((PySem.Str.ofString "max"), PySem.NameKind.globalImplicit)], isGenerator := false, isCoroutine := false, more := [] : PySem.Scope } [("row", 15)] ⟨162, 19, 162, 46⟩) caNil) ⟨_, _, rfl⟩ rfl ⟨162, 15, 162, 18⟩ ⟨162, 15, 162, 47⟩) (cInt 900 0 ⟨162, 50, 162, 53⟩) ⟨162, 15, 162, 53⟩)
  (cbCons (csSet 11 "more" ⟨163, 16, 163, 20⟩ (cCallT "tuple" "tuple" (by decide +kernel) cf_tuple (caCons (cLc false (ciEnum (cVar 2 "table" ⟨163, 119, 163, 124⟩) ⟨163, 109, 163, 118⟩ ⟨163, 109, 163, 125⟩) (cnTup [(16, "a", ⟨163, 99, 163, 100⟩), (15, "row", ⟨163, 102, 163, 105⟩)] 0 ⟨163, 99, 163, 105⟩) ctsNil (cCallT "tuple" "tuple" (by decide +kernel) cf_tuple (caCons (cLc false (ciEnum (cVar 15 "row" ⟨163, 88, 163, 91⟩) ⟨163, 78, 163, 87⟩ ⟨163, 78, 163, 92⟩) (cnTup [(17, "b", ⟨163, 67, 163, 68⟩), (18, "each", ⟨163, 70, 163, 74⟩)] 0 ⟨163, 67, 163, 74⟩) ctsNil (cIf (ctCmp co_ne (cVar 16 "a" ⟨163, 49, 163, 50⟩) (cVar 17 "b" ⟨163, 54, 163, 55⟩) ⟨163, 49, 163, 55⟩) (cBin co_add (cVar 18 "each" ⟨163, 37, 163, 41⟩) (cInt 9 0 ⟨163, 44, 163, 45⟩) ⟨163, 37, 163, 45⟩) (cInt 0 0 ⟨163, 61, 163, 62⟩) ⟨163, 37, 163, 62⟩) { kind := PySem.ScopeKind.function, names := [((PySem.Str.ofString ".0"), PySem.NameKind.local), ((PySem.Str.ofString "b"), PySem.NameKind.local), ((PySem.Str.ofString "each"), PySem.NameKind.local), ((PySem.Str.ofString "a"), PySem.NameKind.free)], isGenerator := false, isCoroutine := false, more := [] : PySem.Scope } [("b", 17), ("each", 18)] ⟨163, 36, 163, 93⟩) caNil) ⟨_, _, rfl⟩ rfl ⟨163, 30, 163, 35⟩ ⟨163, 30, 163, 94⟩) { kind := PySem.ScopeKind.function, names := [((PySem.Str.ofString ".0"), PySem.NameKind.local), ((PySem.Str.ofString "a"), PySem.NameKind.cell), ((PySem.Str.ofString "row"), PySem.NameKind.local), ((PySem.Str.ofString "tuple"), PySem.NameKind.globalImplicit), ((PySem.Str.ofString "enumerate"), PySem.NameKind.globalImplicit)], isGenerator := false, isCoroutine := false, more := [] : PySem.Scope } [("a", 16), ("row", 15)] ⟨163, 29, 163, 126⟩) caNil) ⟨_, _, rfl⟩ rfl ⟨163, 23, 163, 28⟩ ⟨163, 23, 163, 127⟩) ⟨163, 16, 163, 127⟩)
  (cbOne (csIf (ctNot ((cFn 20 "_law_same" ["one", "other"] (caCons (cLst false (caCons (cFn 15 "path_length" ["table", "place", "other"] (caCons (cVar 11 "more" ⟨164, 46, 164, 50⟩) (caCons (cVar 4 "one" ⟨164, 52, 164, 55⟩) (caCons (cVar 5 "two" ⟨164, 57, 164, 60⟩) caNil))) ⟨_, _, rfl⟩ rfl rfl ⟨164, 34, 164, 45⟩ ⟨164, 34, 164, 61⟩) (caCons (cFn 16 "least_path" ["table", "place", "other"] (caCons (cVar 11 "more" ⟨164, 74, 164, 78⟩) (caCons (cVar 4 "one" ⟨164, 80, 164, 83⟩) (caCons (cVar 5 "two" ⟨164, 85, 164, 88⟩) caNil))) ⟨_, _, rfl⟩ rfl rfl ⟨164, 63, 164, 73⟩ ⟨164, 63, 164, 89⟩) caNil)) ⟨164, 33, 164, 90⟩) (caCons (cLst false (caCons (cBin co_add (cIx (cVar 9 "dues" ⟨164, 93, 164, 97⟩) (cInt 0 0 ⟨164, 98, 164, 99⟩) ⟨164, 93, 164, 100⟩) (cBin co_mul (cInt 9 0 ⟨164, 103, 164, 104⟩) (cBin co_sub (cVar 1 "many" ⟨164, 108, 164, 112⟩) (cInt 1 0 ⟨164, 115, 164, 116⟩) ⟨164, 108, 164, 116⟩) ⟨164, 103, 164, 117⟩) ⟨164, 93, 164, 117⟩) (caCons (cIx (cVar 9 "dues" ⟨164, 119, 164, 123⟩) (cInt 1 0 ⟨164, 124, 164, 125⟩) ⟨164, 119, 164, 126⟩) caNil)) ⟨164, 92, 164, 127⟩) caNil)) ⟨_, _, rfl⟩ rfl rfl ⟨164, 23, 164, 32⟩ ⟨164, 23, 164, 128⟩).test) ⟨164, 19, 164, 128⟩)
  (cbOne (csRet (cBl false 0 ⟨165, 27, 165, 32⟩) ⟨165, 20, 165, 32⟩))
  cbNil ⟨164, 16, 165, 32⟩)))
  cbNil ⟨162, 12, 165, 32⟩))))))))))) ⟨150, 8, 165, 32⟩))) ⟨148, 4, 165, 32⟩)
  (cbCons (csTup (cgsCons (cgName 12 "street" ⟨166, 4, 166, 10⟩) (cgsCons (cgName 13 "square" ⟨166, 12, 166, 18⟩) cgsNil)) (cTup (caCons (cTup (caCons (cTup (caCons (cInt 0 0 ⟨166, 24, 166, 25⟩) (caCons (cInt 1 0 ⟨166, 27, 166, 28⟩) (caCons (cInt 3 0 ⟨166, 30, 166, 31⟩) (caCons (cInt 4 0 ⟨166, 33, 166, 34⟩) caNil)))) 0 ⟨166, 23, 166, 35⟩) (caCons (cTup (caCons (cInt 1 0 ⟨166, 38, 166, 39⟩) (caCons (cInt 0 0 ⟨166, 41, 166, 42⟩) (caCons (cInt 2 0 ⟨166, 44, 166, 45⟩) (caCons (cInt 3 0 ⟨166, 47, 166, 48⟩) caNil)))) 0 ⟨166, 37, 166, 49⟩) (caCons (cTup (caCons (cInt 3 0 ⟨166, 52, 166, 53⟩) (caCons (cInt 2 0 ⟨166, 55, 166, 56⟩) (caCons (cInt 0 0 ⟨166, 58, 166, 59⟩) (caCons (cInt 1 0 ⟨166, 61, 166, 62⟩) caNil)))) 0 ⟨166, 51, 166, 63⟩) (caCons (cTup (caCons (cInt 4 0 ⟨166, 66, 166, 67⟩) (caCons (cInt 3 0 ⟨166, 69, 166, 70⟩) (caCons (cInt 1 0 ⟨166, 72, 166, 73⟩) (caCons (cInt 0 0 ⟨166, 75, 166, 76⟩) caNil)))) 0 ⟨166, 65, 166, 77⟩) caNil)))) 0 ⟨166, 22, 166, 78⟩) (caCons (cTup (caCons (cTup (caCons (cInt 0 0 ⟨166, 82, 166, 83⟩) (caCons (cInt 1 0 ⟨166, 85, 166, 86⟩) (caCons (cInt 2 0 ⟨166, 88, 166, 89⟩) (caCons (cInt 1 0 ⟨166, 91, 166, 92⟩) caNil)))) 0 ⟨166, 81, 166, 93⟩) (caCons (cTup (caCons (cInt 1 0 ⟨166, 96, 166, 97⟩) (caCons (cInt 0 0 ⟨166, 99, 166, 100⟩) (caCons (cInt 1 0 ⟨166, 102, 166, 103⟩) (caCons (cInt 2 0 ⟨166, 105, 166, 106⟩) caNil)))) 0 ⟨166, 95, 166, 107⟩) (caCons (cTup (caCons (cInt 2 0 ⟨166, 110, 166, 111⟩) (caCons (cInt 1 0 ⟨166, 113, 166, 114⟩) (caCons (cInt 0 0 ⟨166, 116, 166, 117⟩) (caCons (cInt 1 0 ⟨166, 119, 166, 120⟩) caNil)))) 0 ⟨166, 109, 166, 121⟩) (caCons (cTup (caCons (cInt 1 0 ⟨166, 124, 166, 125⟩) (caCons (cInt 2 0 ⟨166, 127, 166, 128⟩) (caCons (cInt 1 0 ⟨166, 130, 166, 131⟩) (caCons (cInt 0 0 ⟨166, 133, 166, 134⟩) caNil)))) 0 ⟨166, 123, 166, 135⟩) caNil)))) 0 ⟨166, 80, 166, 136⟩) caNil)) 0 ⟨166, 21, 166, 137⟩) 0 ⟨166, 4, 166, 18⟩ ⟨166, 4, 166, 137⟩)
  (cbOne (csRet (cFn 20 "_law_same" ["one", "other"] (caCons (cLst false (caCons (cFn 15 "path_length" ["table", "place", "other"] (caCons (cVar 12 "street" ⟨167, 34, 167, 40⟩) (caCons (cInt 0 0 ⟨167, 42, 167, 43⟩) (caCons (cInt 3 0 ⟨167, 45, 167, 46⟩) caNil))) ⟨_, _, rfl⟩ rfl rfl ⟨167, 22, 167, 33⟩ ⟨167, 22, 167, 47⟩) (caCons (cFn 16 "least_path" ["table", "place", "other"] (caCons (cVar 12 "street" ⟨167, 60, 167, 66⟩) (caCons (cInt 0 0 ⟨167, 68, 167, 69⟩) (caCons (cInt 3 0 ⟨167, 71, 167, 72⟩) caNil))) ⟨_, _, rfl⟩ rfl rfl ⟨167, 49, 167, 59⟩ ⟨167, 49, 167, 73⟩) (caCons (cFn 15 "path_length" ["table", "place", "other"] (caCons (cVar 13 "square" ⟨167, 87, 167, 93⟩) (caCons (cInt 0 0 ⟨167, 95, 167, 96⟩) (caCons (cInt 2 0 ⟨167, 98, 167, 99⟩) caNil))) ⟨_, _, rfl⟩ rfl rfl ⟨167, 75, 167, 86⟩ ⟨167, 75, 167, 100⟩) (caCons (cFn 16 "least_path" ["table", "place", "other"] (caCons (cTup (caCons (cTup (caCons (cInt 0 0 ⟨167, 115, 167, 116⟩) (caCons (cInt 4 0 ⟨167, 118, 167, 119⟩) caNil)) 0 ⟨167, 114, 167, 120⟩) (caCons (cTup (caCons (cInt 4 0 ⟨167, 123, 167, 124⟩) (caCons (cInt 0 0 ⟨167, 126, 167, 127⟩) caNil)) 0 ⟨167, 122, 167, 128⟩) caNil)) 0 ⟨167, 113, 167, 129⟩) (caCons (cInt 1 0 ⟨167, 131, 167, 132⟩) (caCons (cInt 0 0 ⟨167, 134, 167, 135⟩) caNil))) ⟨_, _, rfl⟩ rfl rfl ⟨167, 102, 167, 112⟩ ⟨167, 102, 167, 136⟩) caNil)))) ⟨167, 21, 167, 137⟩) (caCons (cLst false (caCons (cInt 4 0 ⟨167, 140, 167, 141⟩) (caCons (cTup (caCons (cInt 0 0 ⟨167, 144, 167, 145⟩) (caCons (cInt 1 0 ⟨167, 147, 167, 148⟩) (caCons (cInt 2 0 ⟨167, 150, 167, 151⟩) (caCons (cInt 3 0 ⟨167, 153, 167, 154⟩) caNil)))) 0 ⟨167, 143, 167, 155⟩) (caCons (cInt 4 0 ⟨167, 157, 167, 158⟩) (caCons (cTup (caCons (cInt 1 0 ⟨167, 161, 167, 162⟩) (caCons (cInt 0 0 ⟨167, 164, 167, 165⟩) caNil)) 0 ⟨167, 160, 167, 166⟩) caNil)))) ⟨167, 139, 167, 167⟩) caNil)) ⟨_, _, rfl⟩ rfl rfl ⟨167, 11, 167, 20⟩ ⟨167, 11, 167, 168⟩) ⟨167, 4, 167, 168⟩))))
/-- law -/
def b29 :=
  (cbCons (csFor (ciRng1 (cCallB "max" "max" (by decide +kernel) cf_max2 (caCons (cInt 2 0 ⟨169, 25, 169, 26⟩) (caCons (cCallB "min" "min" (by decide +kernel) cf_min2 (caCons (cCallB "len" "len" (by decide +kernel) cf_len (caCons (cVar 0 "script" ⟨169, 36, 169, 42⟩) caNil) ⟨_, _, rfl⟩ rfl ⟨169, 32, 169, 35⟩ ⟨169, 32, 169, 43⟩) (caCons (cInt 3 0 ⟨169, 45, 169, 46⟩) caNil)) ⟨_, _, rfl⟩ rfl ⟨169, 28, 169, 31⟩ ⟨169, 28, 169, 47⟩) caNil)) ⟨_, _, rfl⟩ rfl ⟨169, 21, 169, 24⟩ ⟨169, 21, 169, 48⟩) ⟨169, 15, 169, 20⟩ ⟨169, 15, 169, 49⟩) (cgName 1 "lap" ⟨169, 8, 169, 11⟩)
  (cbOne (csIf (ctNot ((cFn 28 "_law_right" ["pool"] (caCons (cFn 17 "_law_pool" ["script", "lap"] (caCons (cVar 0 "script" ⟨170, 36, 170, 42⟩) (caCons (cVar 1 "lap" ⟨170, 44, 170, 47⟩) caNil)) ⟨_, _, rfl⟩ rfl rfl ⟨170, 26, 170, 35⟩ ⟨170, 26, 170, 48⟩) caNil) ⟨_, _, rfl⟩ rfl rfl ⟨170, 15, 170, 25⟩ ⟨170, 15, 170, 49⟩).test) ⟨170, 11, 170, 49⟩)
  (cbOne (csRet (cBl false 0 ⟨171, 19, 171, 24⟩) ⟨171, 12, 171, 24⟩))
  cbNil ⟨170, 8, 171, 24⟩)) ⟨169, 4, 171, 24⟩)
  (cbOne (csRet (cBl true 0 ⟨172, 11, 172, 15⟩) ⟨172, 4, 172, 15⟩)))
def f0 : FD := ⟨"is_whole", ["value"], ["value"], top 6, _, b0, false⟩
def f1 : FD := ⟨"is_between", ["value", "low", "high"], ["value", "low", "high"], top 7, _, b1, false⟩
def f2 : FD := ⟨"is_tuple_of", ["value", "many"], ["value", "many"], top 8, _, b2, false⟩
def f3 : FD := ⟨"is_distance", ["value"], ["value"], top 12, _, b3, false⟩
def f4 : FD := ⟨"is_table_by", ["value"], ["value", "many", "row", "each", "place", "one", "two"], top 13, _, b4, false⟩
def f5 : FD := ⟨"places_of", ["table"], ["table"], top 14, _, b5, false⟩
def f6 : FD := ⟨"pairs_of", ["many"], ["many", "one", "two"], top 15, _, b6, false⟩
def f7 : FD := ⟨"check_table", ["value"], ["value"], top 17, _, b7, false⟩
def f8 : FD := ⟨"check_place", ["table", "value"], ["table", "value"], top 18, _, b8, false⟩
def f9 : FD := ⟨"check_two_places", ["table", "place", "other"], ["table", "place", "other"], top 19, _, b9, false⟩
def f10 : FD := ⟨"path_sum", ["table", "path"], ["table", "path", "at"], top 21, _, b10, false⟩
def f11 : FD := ⟨"least_of_paths", ["table", "place", "other"], ["table", "place", "other", "middle", "paths", "each", "rest", "path"], top 22, _, b11, false⟩
def f12 : FD := ⟨"path_length_by", ["table", "place", "other"], ["table", "place", "other"], top 23, _, b12, false⟩
def f13 : FD := ⟨"least_path_by", ["table", "place", "other"], ["table", "place", "other"], top 24, _, b13, false⟩
def f14 : FD := ⟨"check_ends", ["table", "place", "other"], ["table", "place", "other"], top 26, _, b14, false⟩
def f15 : FD := ⟨"path_length", ["table", "place", "other"], ["table", "place", "other"], top 27, _, b15, false⟩
def f16 : FD := ⟨"least_path", ["table", "place", "other"], ["table", "place", "other"], top 28, _, b16, false⟩
def f17 : FD := ⟨"_law_pool", ["script", "lap"], ["script", "lap", "own", "stirred", "cell"], top 30, _, b17, false⟩
def f18 : FD := ⟨"_law_draw", ["pool", "many"], ["pool", "many", "figure", "held"], top 31, _, b18, false⟩
def f19 : FD := ⟨"_law_pick", ["pool", "some"], ["pool", "some"], top 32, _, b19, false⟩
def f20 : FD := ⟨"_law_same", ["one", "other"], ["one", "other", "k"], top 33, _, b20, false⟩
def f21 : FD := ⟨"_law_any_table", ["pool", "many"], ["pool", "many", "high", "rows", "one", "two", "place", "row"], top 34, _, b21, false⟩
def f22 : FD := ⟨"_law_tree_table", ["pool", "many"], ["pool", "many", "size", "place", "far", "high", "root", "gap", "other", "some", "one", "two"], top 35, _, b22, false⟩
def f23 : FD := ⟨"_law_cut_table", ["pool", "ring"], ["pool", "ring", "many", "rows", "high", "start", "stop", "inside", "number", "one", "two", "place", "row"], top 36, _, b23, false⟩
def f24 : FD := ⟨"_law_mixed", ["pool", "many"], ["pool", "many", "left", "found", "lap", "place", "each"], top 37, _, b24, false⟩
def f25 : FD := ⟨"_law_table", ["pool", "many"], ["pool", "many", "sort", "spots", "place", "one", "two"], top 38, _, b25, false⟩
def f26 : FD := ⟨"_law_orders", ["some"], ["some", "found", "lap", "more", "row", "place"], top 39, _, b26, false⟩
def f27 : FD := ⟨"_law_way", ["table", "row"], ["table", "row", "one", "two"], top 40, _, b27, false⟩
def f28 : FD := ⟨"_law_right", ["pool"], ["pool", "many", "table", "lap", "one", "two", "some", "rows", "lengths", "dues", "told", "more", "street", "square", "place", "row", "a", "b", "each"], top 41, _, b28, false⟩
def f29 : FD := ⟨"law", ["script"], ["script", "lap"], top 42, _, b29, false⟩
def T : List FD := [f0, f1, f2, f3, f4, f5, f6, f7, f8, f9, f10, f11, f12, f13, f14, f15, f16, f17, f18, f19, f20, f21, f22, f23, f24, f25, f26, f27, f28, f29]
def I : Info := { fre := ["isinstance", "bool", "int", "len", "tuple", "all", "any", "range", "list", "sum", "min", "abs", "divmod", "str", "zip", "max", "enumerate"], fns := [(("is_whole" : Str), (["value"] : List Str)), (("is_between" : Str), (["value", "low", "high"] : List Str)), (("is_tuple_of" : Str), (["value", "many"] : List Str)), (("is_distance" : Str), (["value"] : List Str)), (("is_table_by" : Str), (["value"] : List Str)), (("places_of" : Str), (["table"] : List Str)), (("pairs_of" : Str), (["many"] : List Str)), (("check_table" : Str), (["value"] : List Str)), (("check_place" : Str), (["table", "value"] : List Str)), (("check_two_places" : Str), (["table", "place", "other"] : List Str)), (("path_sum" : Str), (["table", "path"] : List Str)), (("least_of_paths" : Str), (["table", "place", "other"] : List Str)), (("path_length_by" : Str), (["table", "place", "other"] : List Str)), (("least_path_by" : Str), (["table", "place", "other"] : List Str)), (("check_ends" : Str), (["table", "place", "other"] : List Str)), (("path_length" : Str), (["table", "place", "other"] : List Str)), (("least_path" : Str), (["table", "place", "other"] : List Str)), (("_law_pool" : Str), (["script", "lap"] : List Str)), (("_law_draw" : Str), (["pool", "many"] : List Str)), (("_law_pick" : Str), (["pool", "some"] : List Str)), (("_law_same" : Str), (["one", "other"] : List Str)), (("_law_any_table" : Str), (["pool", "many"] : List Str)), (("_law_tree_table" : Str), (["pool", "many"] : List Str)), (("_law_cut_table" : Str), (["pool", "ring"] : List Str)), (("_law_mixed" : Str), (["pool", "many"] : List Str)), (("_law_table" : Str), (["pool", "many"] : List Str)), (("_law_orders" : Str), (["some"] : List Str)), (("_law_way" : Str), (["table", "row"] : List Str)), (("_law_right" : Str), (["pool"] : List Str)), (("law" : Str), (["script"] : List Str))], nums := [("MOST_DISTANCE", 999), ("MOST_PLACES", 8)], kws := [(16, 0, ["other", "place", "table"]), (15, 0, ["other", "place", "table"])], typs := [("permutations", "itertools.permutations")] }
theorem hfns : I.fns = T.map fun f => (f.x, f.ps) := by kernel_rfl
theorem chk0 : chkF I f0 = true := by decide +kernel
theorem chk1 : chkF I f1 = true := by decide +kernel
theorem chk2 : chkF I f2 = true := by decide +kernel
theorem chk3 : chkF I f3 = true := by decide +kernel
theorem chk4 : chkF I f4 = true := by decide +kernel
theorem chk5 : chkF I f5 = true := by decide +kernel
theorem chk6 : chkF I f6 = true := by decide +kernel
theorem chk7 : chkF I f7 = true := by decide +kernel
theorem chk8 : chkF I f8 = true := by decide +kernel
theorem chk9 : chkF I f9 = true := by decide +kernel
theorem chk10 : chkF I f10 = true := by decide +kernel
theorem chk11 : chkF I f11 = true := by decide +kernel
theorem chk12 : chkF I f12 = true := by decide +kernel
theorem chk13 : chkF I f13 = true := by decide +kernel
theorem chk14 : chkF I f14 = true := by decide +kernel
theorem chk15 : chkF I f15 = true := by decide +kernel
theorem chk16 : chkF I f16 = true := by decide +kernel
theorem chk17 : chkF I f17 = true := by decide +kernel
theorem chk18 : chkF I f18 = true := by decide +kernel
theorem chk19 : chkF I f19 = true := by decide +kernel
theorem chk20 : chkF I f20 = true := by decide +kernel
theorem chk21 : chkF I f21 = true := by decide +kernel
theorem chk22 : chkF I f22 = true := by decide +kernel
theorem chk23 : chkF I f23 = true := by decide +kernel
theorem chk24 : chkF I f24 = true := by decide +kernel
theorem chk25 : chkF I f25 = true := by decide +kernel
theorem chk26 : chkF I f26 = true := by decide +kernel
theorem chk27 : chkF I f27 = true := by decide +kernel
theorem chk28 : chkF I f28 = true := by decide +kernel
theorem chk29 : chkF I f29 = true := by decide +kernel
theorem hchk : T.all (chkF I) = true := by
  unfold T
  simp only [List.all_cons, List.all_nil, chk0, chk1, chk2, chk3, chk4, chk5, chk6, chk7, chk8, chk9, chk10, chk11, chk12, chk13, chk14, chk15, chk16, chk17, chk18, chk19, chk20, chk21, chk22, chk23, chk24, chk25, chk26, chk27, chk28, chk29, Bool.and_self]
theorem bod0 : defBody f0.st = f0.body.py := by kernel_rfl
theorem bod1 : defBody f1.st = f1.body.py := by kernel_rfl
theorem bod2 : defBody f2.st = f2.body.py := by kernel_rfl
theorem bod3 : defBody f3.st = f3.body.py := by kernel_rfl
theorem bod4 : defBody f4.st = f4.body.py := by kernel_rfl
theorem bod5 : defBody f5.st = f5.body.py := by kernel_rfl
theorem bod6 : defBody f6.st = f6.body.py := by kernel_rfl
theorem bod7 : defBody f7.st = f7.body.py := by kernel_rfl
theorem bod8 : defBody f8.st = f8.body.py := by kernel_rfl
theorem bod9 : defBody f9.st = f9.body.py := by kernel_rfl
theorem bod10 : defBody f10.st = f10.body.py := by kernel_rfl
theorem bod11 : defBody f11.st = f11.body.py := by kernel_rfl
theorem bod12 : defBody f12.st = f12.body.py := by kernel_rfl
theorem bod13 : defBody f13.st = f13.body.py := by kernel_rfl
theorem bod14 : defBody f14.st = f14.body.py := by kernel_rfl
theorem bod15 : defBody f15.st = f15.body.py := by kernel_rfl
theorem bod16 : defBody f16.st = f16.body.py := by kernel_rfl
theorem bod17 : defBody f17.st = f17.body.py := by kernel_rfl
theorem bod18 : defBody f18.st = f18.body.py := by kernel_rfl
theorem bod19 : defBody f19.st = f19.body.py := by kernel_rfl
theorem bod20 : defBody f20.st = f20.body.py := by kernel_rfl
theorem bod21 : defBody f21.st = f21.body.py := by kernel_rfl
theorem bod22 : defBody f22.st = f22.body.py := by kernel_rfl
theorem bod23 : defBody f23.st = f23.body.py := by kernel_rfl
theorem bod24 : defBody f24.st = f24.body.py := by kernel_rfl
theorem bod25 : defBody f25.st = f25.body.py := by kernel_rfl
theorem bod26 : defBody f26.st = f26.body.py := by kernel_rfl
theorem bod27 : defBody f27.st = f27.body.py := by kernel_rfl
theorem bod28 : defBody f28.st = f28.body.py := by kernel_rfl
theorem bod29 : defBody f29.st = f29.body.py := by kernel_rfl
theorem hbod : ∀ f ∈ T, defBody f.st = f.body.py := List.forall_mem_cons.mpr ⟨bod0, List.forall_mem_cons.mpr ⟨bod1, List.forall_mem_cons.mpr ⟨bod2, List.forall_mem_cons.mpr ⟨bod3, List.forall_mem_cons.mpr ⟨bod4, List.forall_mem_cons.mpr ⟨bod5, List.forall_mem_cons.mpr ⟨bod6, List.forall_mem_cons.mpr ⟨bod7, List.forall_mem_cons.mpr ⟨bod8, List.forall_mem_cons.mpr ⟨bod9, List.forall_mem_cons.mpr ⟨bod10, List.forall_mem_cons.mpr ⟨bod11, List.forall_mem_cons.mpr ⟨bod12, List.forall_mem_cons.mpr ⟨bod13, List.forall_mem_cons.mpr ⟨bod14, List.forall_mem_cons.mpr ⟨bod15, List.forall_mem_cons.mpr ⟨bod16, List.forall_mem_cons.mpr ⟨bod17, List.forall_mem_cons.mpr ⟨bod18, List.forall_mem_cons.mpr ⟨bod19, List.forall_mem_cons.mpr ⟨bod20, List.forall_mem_cons.mpr ⟨bod21, List.forall_mem_cons.mpr ⟨bod22, List.forall_mem_cons.mpr ⟨bod23, List.forall_mem_cons.mpr ⟨bod24, List.forall_mem_cons.mpr ⟨bod25, List.forall_mem_cons.mpr ⟨bod26, List.forall_mem_cons.mpr ⟨bod27, List.forall_mem_cons.mpr ⟨bod28, List.forall_mem_cons.mpr ⟨bod29, fun _ h => nomatch h⟩⟩⟩⟩⟩⟩⟩⟩⟩⟩⟩⟩⟩⟩⟩⟩⟩⟩⟩⟩⟩⟩⟩⟩⟩⟩⟩⟩⟩⟩
theorem bnd0 : BindsF I 0 f0 where
  b := fun K a fd F => F.bindsN fun _ _ _ _ _ _ us hl => match us, hl with | [_], _ => rfl
  kb := by
    rw [show I.kwOf 0 = ([] : List (Nat × List Str)) from by decide +kernel]
    intro q h K a fd F
    exact nomatch h
theorem bnd1 : BindsF I 1 f1 where
  b := fun K a fd F => F.bindsN fun _ _ _ _ _ _ us hl => match us, hl with | [_, _, _], _ => rfl
  kb := by
    rw [show I.kwOf 1 = ([] : List (Nat × List Str)) from by decide +kernel]
    intro q h K a fd F
    exact nomatch h
theorem bnd2 : BindsF I 2 f2 where
  b := fun K a fd F => F.bindsN fun _ _ _ _ _ _ us hl => match us, hl with | [_, _], _ => rfl
  kb := by
    rw [show I.kwOf 2 = ([] : List (Nat × List Str)) from by decide +kernel]
    intro q h K a fd F
    exact nomatch h
theorem bnd3 : BindsF I 3 f3 where
  b := fun K a fd F => F.bindsN fun _ _ _ _ _ _ us hl => match us, hl with | [_], _ => rfl
  kb := by
    rw [show I.kwOf 3 = ([] : List (Nat × List Str)) from by decide +kernel]
    intro q h K a fd F
    exact nomatch h
theorem bnd4 : BindsF I 4 f4 where
  b := fun K a fd F => F.bindsN fun _ _ _ _ _ _ us hl => match us, hl with | [_], _ => rfl
  kb := by
    rw [show I.kwOf 4 = ([] : List (Nat × List Str)) from by decide +kernel]
    intro q h K a fd F
    exact nomatch h
theorem bnd5 : BindsF I 5 f5 where
  b := fun K a fd F => F.bindsN fun _ _ _ _ _ _ us hl => match us, hl with | [_], _ => rfl
  kb := by
    rw [show I.kwOf 5 = ([] : List (Nat × List Str)) from by decide +kernel]
    intro q h K a fd F
    exact nomatch h
theorem bnd6 : BindsF I 6 f6 where
  b := fun K a fd F => F.bindsN fun _ _ _ _ _ _ us hl => match us, hl with | [_], _ => rfl
  kb := by
    rw [show I.kwOf 6 = ([] : List (Nat × List Str)) from by decide +kernel]
    intro q h K a fd F
    exact nomatch h
theorem bnd7 : BindsF I 7 f7 where
  b := fun K a fd F => F.bindsN fun _ _ _ _ _ _ us hl => match us, hl with | [_], _ => rfl
  kb := by
    rw [show I.kwOf 7 = ([] : List (Nat × List Str)) from by decide +kernel]
    intro q h K a fd F
    exact nomatch h
theorem bnd8 : BindsF I 8 f8 where
  b := fun K a fd F => F.bindsN fun _ _ _ _ _ _ us hl => match us, hl with | [_, _], _ => rfl
  kb := by
    rw [show I.kwOf 8 = ([] : List (Nat × List Str)) from by decide +kernel]
    intro q h K a fd F
    exact nomatch h
theorem bnd9 : BindsF I 9 f9 where
  b := fun K a fd F => F.bindsN fun _ _ _ _ _ _ us hl => match us, hl with | [_, _, _], _ => rfl
  kb := by
    rw [show I.kwOf 9 = ([] : List (Nat × List Str)) from by decide +kernel]
    intro q h K a fd F
    exact nomatch h
theorem bnd10 : BindsF I 10 f10 where
  b := fun K a fd F => F.bindsN fun _ _ _ _ _ _ us hl => match us, hl with | [_, _], _ => rfl
  kb := by
    rw [show I.kwOf 10 = ([] : List (Nat × List Str)) from by decide +kernel]
    intro q h K a fd F
    exact nomatch h
theorem bnd11 : BindsF I 11 f11 where
  b := fun K a fd F => F.bindsN fun _ _ _ _ _ _ us hl => match us, hl with | [_, _, _], _ => rfl
  kb := by
    rw [show I.kwOf 11 = ([] : List (Nat × List Str)) from by decide +kernel]
    intro q h K a fd F
    exact nomatch h
theorem bnd12 : BindsF I 12 f12 where
  b := fun K a fd F => F.bindsN fun _ _ _ _ _ _ us hl => match us, hl with | [_, _, _], _ => rfl
  kb := by
    rw [show I.kwOf 12 = ([] : List (Nat × List Str)) from by decide +kernel]
    intro q h K a fd F
    exact nomatch h
theorem bnd13 : BindsF I 13 f13 where
  b := fun K a fd F => F.bindsN fun _ _ _ _ _ _ us hl => match us, hl with | [_, _, _], _ => rfl
  kb := by
    rw [show I.kwOf 13 = ([] : List (Nat × List Str)) from by decide +kernel]
    intro q h K a fd F
    exact nomatch h
theorem bnd14 : BindsF I 14 f14 where
  b := fun K a fd F => F.bindsN fun _ _ _ _ _ _ us hl => match us, hl with | [_, _, _], _ => rfl
  kb := by
    rw [show I.kwOf 14 = ([] : List (Nat × List Str)) from by decide +kernel]
    intro q h K a fd F
    exact nomatch h
theorem bnd15 : BindsF I 15 f15 where
  b := fun K a fd F => F.bindsN fun _ _ _ _ _ _ us hl => match us, hl with | [_, _, _], _ => rfl
  kb := by
    rw [show I.kwOf 15 = ([(0, (["other", "place", "table"] : List Str))] : List (Nat × List Str)) from by decide +kernel]
    intro q h K a fd F
    rcases List.mem_cons.mp h with rfl | h
    · exact FunD.kbN F 0 ["other", "place", "table"] (fun kV doc pm an cdv ct us ws hu hw => match us, ws, hu, hw with | [], [_, _, _], _, _ => by kernel_rfl)
    exact nomatch h
theorem bnd16 : BindsF I 16 f16 where
  b := fun K a fd F => F.bindsN fun _ _ _ _ _ _ us hl => match us, hl with | [_, _, _], _ => rfl
  kb := by
    rw [show I.kwOf 16 = ([(0, (["other", "place", "table"] : List Str))] : List (Nat × List Str)) from by decide +kernel]
    intro q h K a fd F
    rcases List.mem_cons.mp h with rfl | h
    · exact FunD.kbN F 0 ["other", "place", "table"] (fun kV doc pm an cdv ct us ws hu hw => match us, ws, hu, hw with | [], [_, _, _], _, _ => by kernel_rfl)
    exact nomatch h
theorem bnd17 : BindsF I 17 f17 where
  b := fun K a fd F => F.bindsN fun _ _ _ _ _ _ us hl => match us, hl with | [_, _], _ => rfl
  kb := by
    rw [show I.kwOf 17 = ([] : List (Nat × List Str)) from by decide +kernel]
    intro q h K a fd F
    exact nomatch h
theorem bnd18 : BindsF I 18 f18 where
  b := fun K a fd F => F.bindsN fun _ _ _ _ _ _ us hl => match us, hl with | [_, _], _ => rfl
  kb := by
    rw [show I.kwOf 18 = ([] : List (Nat × List Str)) from by decide +kernel]
    intro q h K a fd F
    exact nomatch h
theorem bnd19 : BindsF I 19 f19 where
  b := fun K a fd F => F.bindsN fun _ _ _ _ _ _ us hl => match us, hl with | [_, _], _ => rfl
  kb := by
    rw [show I.kwOf 19 = ([] : List (Nat × List Str)) from by decide +kernel]
    intro q h K a fd F
    exact nomatch h
theorem bnd20 : BindsF I 20 f20 where
  b := fun K a fd F => F.bindsN fun _ _ _ _ _ _ us hl => match us, hl with | [_, _], _ => rfl
  kb := by
    rw [show I.kwOf 20 = ([] : List (Nat × List Str)) from by decide +kernel]
    intro q h K a fd F
    exact nomatch h
theorem bnd21 : BindsF I 21 f21 where
  b := fun K a fd F => F.bindsN fun _ _ _ _ _ _ us hl => match us, hl with | [_, _], _ => rfl
  kb := by
    rw [show I.kwOf 21 = ([] : List (Nat × List Str)) from by decide +kernel]
    intro q h K a fd F
    exact nomatch h
theorem bnd22 : BindsF I 22 f22 where
  b := fun K a fd F => F.bindsN fun _ _ _ _ _ _ us hl => match us, hl with | [_, _], _ => rfl
  kb := by
    rw [show I.kwOf 22 = ([] : List (Nat × List Str)) from by decide +kernel]
    intro q h K a fd F
    exact nomatch h
theorem bnd23 : BindsF I 23 f23 where
  b := fun K a fd F => F.bindsN fun _ _ _ _ _ _ us hl => match us, hl with | [_, _], _ => rfl
  kb := by
    rw [show I.kwOf 23 = ([] : List (Nat × List Str)) from by decide +kernel]
    intro q h K a fd F
    exact nomatch h
theorem bnd24 : BindsF I 24 f24 where
  b := fun K a fd F => F.bindsN fun _ _ _ _ _ _ us hl => match us, hl with | [_, _], _ => rfl
  kb := by
    rw [show I.kwOf 24 = ([] : List (Nat × List Str)) from by decide +kernel]
    intro q h K a fd F
    exact nomatch h
theorem bnd25 : BindsF I 25 f25 where
  b := fun K a fd F => F.bindsN fun _ _ _ _ _ _ us hl => match us, hl with | [_, _], _ => rfl
  kb := by
    rw [show I.kwOf 25 = ([] : List (Nat × List Str)) from by decide +kernel]
    intro q h K a fd F
    exact nomatch h
theorem bnd26 : BindsF I 26 f26 where
  b := fun K a fd F => F.bindsN fun _ _ _ _ _ _ us hl => match us, hl with | [_], _ => rfl
  kb := by
    rw [show I.kwOf 26 = ([] : List (Nat × List Str)) from by decide +kernel]
    intro q h K a fd F
    exact nomatch h
theorem bnd27 : BindsF I 27 f27 where
  b := fun K a fd F => F.bindsN fun _ _ _ _ _ _ us hl => match us, hl with | [_, _], _ => rfl
  kb := by
    rw [show I.kwOf 27 = ([] : List (Nat × List Str)) from by decide +kernel]
    intro q h K a fd F
    exact nomatch h
theorem bnd28 : BindsF I 28 f28 where
  b := fun K a fd F => F.bindsN fun _ _ _ _ _ _ us hl => match us, hl with | [_], _ => rfl
  kb := by
    rw [show I.kwOf 28 = ([] : List (Nat × List Str)) from by decide +kernel]
    intro q h K a fd F
    exact nomatch h
theorem bnd29 : BindsF I 29 f29 where
  b := fun K a fd F => F.bindsN fun _ _ _ _ _ _ us hl => match us, hl with | [_], _ => rfl
  kb := by
    rw [show I.kwOf 29 = ([] : List (Nat × List Str)) from by decide +kernel]
    intro q h K a fd F
    exact nomatch h
theorem hbl : BLs I 0 T := ⟨bnd0, bnd1, bnd2, bnd3, bnd4, bnd5, bnd6, bnd7, bnd8, bnd9, bnd10, bnd11, bnd12, bnd13, bnd14, bnd15, bnd16, bnd17, bnd18, bnd19, bnd20, bnd21, bnd22, bnd23, bnd24, bnd25, bnd26, bnd27, bnd28, bnd29, trivial⟩
theorem eq0 (k : Nat) (ds : List D) : phi T (k+1) 0 ds = runF ["value"] f0.sv false (phi T k) ds := rfl
theorem eq1 (k : Nat) (ds : List D) : phi T (k+1) 1 ds = runF ["value", "low", "high"] f1.sv false (phi T k) ds := rfl
theorem eq2 (k : Nat) (ds : List D) : phi T (k+1) 2 ds = runF ["value", "many"] f2.sv false (phi T k) ds := rfl
theorem eq3 (k : Nat) (ds : List D) : phi T (k+1) 3 ds = runF ["value"] f3.sv false (phi T k) ds := rfl
theorem eq4 (k : Nat) (ds : List D) : phi T (k+1) 4 ds = runF ["value", "many", "row", "each", "place", "one", "two"] f4.sv false (phi T k) ds := rfl
theorem eq5 (k : Nat) (ds : List D) : phi T (k+1) 5 ds = runF ["table"] f5.sv false (phi T k) ds := rfl
theorem eq6 (k : Nat) (ds : List D) : phi T (k+1) 6 ds = runF ["many", "one", "two"] f6.sv false (phi T k) ds := rfl
theorem eq7 (k : Nat) (ds : List D) : phi T (k+1) 7 ds = runF ["value"] f7.sv false (phi T k) ds := rfl
theorem eq8 (k : Nat) (ds : List D) : phi T (k+1) 8 ds = runF ["table", "value"] f8.sv false (phi T k) ds := rfl
theorem eq9 (k : Nat) (ds : List D) : phi T (k+1) 9 ds = runF ["table", "place", "other"] f9.sv false (phi T k) ds := rfl
theorem eq10 (k : Nat) (ds : List D) : phi T (k+1) 10 ds = runF ["table", "path", "at"] f10.sv false (phi T k) ds := rfl
theorem eq11 (k : Nat) (ds : List D) : phi T (k+1) 11 ds = runF ["table", "place", "other", "middle", "paths", "each", "rest", "path"] f11.sv false (phi T k) ds := rfl
theorem eq12 (k : Nat) (ds : List D) : phi T (k+1) 12 ds = runF ["table", "place", "other"] f12.sv false (phi T k) ds := rfl
theorem eq13 (k : Nat) (ds : List D) : phi T (k+1) 13 ds = runF ["table", "place", "other"] f13.sv false (phi T k) ds := rfl
theorem eq14 (k : Nat) (ds : List D) : phi T (k+1) 14 ds = runF ["table", "place", "other"] f14.sv false (phi T k) ds := rfl
theorem eq15 (k : Nat) (ds : List D) : phi T (k+1) 15 ds = runF ["table", "place", "other"] f15.sv false (phi T k) ds := rfl
theorem eq16 (k : Nat) (ds : List D) : phi T (k+1) 16 ds = runF ["table", "place", "other"] f16.sv false (phi T k) ds := rfl
theorem eq17 (k : Nat) (ds : List D) : phi T (k+1) 17 ds = runF ["script", "lap", "own", "stirred", "cell"] f17.sv false (phi T k) ds := rfl
theorem eq18 (k : Nat) (ds : List D) : phi T (k+1) 18 ds = runF ["pool", "many", "figure", "held"] f18.sv false (phi T k) ds := rfl
theorem eq19 (k : Nat) (ds : List D) : phi T (k+1) 19 ds = runF ["pool", "some"] f19.sv false (phi T k) ds := rfl
theorem eq20 (k : Nat) (ds : List D) : phi T (k+1) 20 ds = runF ["one", "other", "k"] f20.sv false (phi T k) ds := rfl
theorem eq21 (k : Nat) (ds : List D) : phi T (k+1) 21 ds = runF ["pool", "many", "high", "rows", "one", "two", "place", "row"] f21.sv false (phi T k) ds := rfl
theorem eq22 (k : Nat) (ds : List D) : phi T (k+1) 22 ds = runF ["pool", "many", "size", "place", "far", "high", "root", "gap", "other", "some", "one", "two"] f22.sv false (phi T k) ds := rfl
theorem eq23 (k : Nat) (ds : List D) : phi T (k+1) 23 ds = runF ["pool", "ring", "many", "rows", "high", "start", "stop", "inside", "number", "one", "two", "place", "row"] f23.sv false (phi T k) ds := rfl
theorem eq24 (k : Nat) (ds : List D) : phi T (k+1) 24 ds = runF ["pool", "many", "left", "found", "lap", "place", "each"] f24.sv false (phi T k) ds := rfl
theorem eq25 (k : Nat) (ds : List D) : phi T (k+1) 25 ds = runF ["pool", "many", "sort", "spots", "place", "one", "two"] f25.sv false (phi T k) ds := rfl
theorem eq26 (k : Nat) (ds : List D) : phi T (k+1) 26 ds = runF ["some", "found", "lap", "more", "row", "place"] f26.sv false (phi T k) ds := rfl
theorem eq27 (k : Nat) (ds : List D) : phi T (k+1) 27 ds = runF ["table", "row", "one", "two"] f27.sv false (phi T k) ds := rfl
theorem eq28 (k : Nat) (ds : List D) : phi T (k+1) 28 ds = runF ["pool", "many", "table", "lap", "one", "two", "some", "rows", "lengths", "dues", "told", "more", "street", "square", "place", "row", "a", "b", "each"] f28.sv false (phi T k) ds := rfl
theorem eq29 (k : Nat) (ds : List D) : phi T (k+1) 29 ds = runF ["script", "lap"] f29.sv false (phi T k) ds := rfl
def loose : List PySem.Str := (["RoundError", "NotATable", "InvalidPlace", "is_whole", "is_between", "is_tuple_of", "MOST_PLACES", "MOST_DISTANCE", "is_distance", "is_table_by", "places_of", "pairs_of", "check_table", "check_place", "check_two_places", "path_sum", "least_of_paths", "path_length_by", "least_path_by", "check_ends", "path_length", "least_path", "_law_pool", "_law_draw", "_law_pick", "_law_same", "_law_any_table", "_law_tree_table", "_law_cut_table", "_law_mixed"] : List PySem.Str) ++ (["_law_table", "_law_orders", "_law_way", "_law_right"] : List PySem.Str)
abbrev R : PySem.W.OpenRow := PySem.W.OpenLaw.row PySem.Challenge.rw_roundorders_k45_whole_least_paths
abbrev hk : PySem.W.Hook := hookT 6 I.typs (faOf I) (fnOf T)
def ob (s : PySem.W.SharedT) : AlT := obsTG 6 I.typs (faOf I) (fnOf T) (HandSHeadRun.getT s)
theorem ob_eq (s : PySem.W.SharedT) : ob s = hk.obs s.abs := obsTG_eq (HandSHeadRun.getT_eq s)
theorem run (w : PySem.World) : HandSHeadRun.RunEqI R (PySem.W.view R.prog [0, 42]) hk ob 4000 loose w := by
  unfold HandSHeadRun.RunEqI
  kernel_rfl
theorem lawBind (K : PySem.W.Frag) (a : Addr) (fd : FuncData) (F : FunD K f29.x f29.x (defArgs f29.st) (defBody f29.st) (defScope f29.st) [] [] a fd) (s : Shared) (u : Value) : BindsTo s fd ⟨[u], []⟩ [("script", u)] :=
  FunD.bindsA (ps := ["script"]) F (fun _ _ _ _ _ _ us hl => match us, hl with | [_], _ => rfl) s [u] rfl
theorem holds (k : Nat) (hk2 : 3 * k + 5 < 900 ∧ 16 * k + 200 < 4000) (hroom : Room k callerA) (main : ∀ ns : List Int, ns.length ≤ 63 → ∃ S, phi T k 29 [rolI ns] [] = .ok (.bl true) S) : PySem.Challenge.rw_roundorders_k45_whole_least_paths.Holds := by
  w_on; o_law
  refine HandSHeadRun.head_imp (r := PySem.W.OpenLaw.row PySem.Challenge.rw_roundorders_k45_whole_least_paths) (q := PySem.W.view (PySem.W.OpenLaw.row PySem.Challenge.rw_roundorders_k45_whole_least_paths).prog [0, 42]) (H := hk) (ob := ob) (M := 4000) (loose := loose) (d := HandSHeadRun.topDef (PySem.W.OpenLaw.row PySem.Challenge.rw_roundorders_k45_whole_least_paths).prog 42) (kwd := []) ob_eq
    run (by kernel_rfl) (by kernel_rfl) (by kernel_rfl) (by rfl) (by first | assumption | decide +kernel) (by decide +kernel) ⟨rfl, rfl, rfl, rfl, rfl, by decide +kernel⟩ ?hw ?hc
  case hw => w_witness2
  case hc =>
    refine L2.walk_ofE (l := PySem.Challenge.rw_roundorders_k45_whole_least_paths) (n := 63) (k := k) (x := "script") (CX := L2.CX0) rfl (by decide) (by kernel_rfl) hroom ?F (fun _ _ _ _ z => z)
    intro w mg fa h Y G hmg0
    obtain ⟨K, KX, c⟩ := Y
    have hmg : mg (f29.x) = some (.ref fa) := by
      have e : (HandSHeadRun.topDef (PySem.W.OpenLaw.row PySem.Challenge.rw_roundorders_k45_whole_least_paths).prog 42).name = f29.x := by kernel_rfl
      rw [← e]
      exact hmg0
    exact law_all (saysT_d c) KX G (fun p hp => ty_ok KX G (saysT_t c p hp)) hfns hchk hbod hbl (j := 29) (fl := f29) rfl rfl hmg (by decide) lawBind main
end K45
end

section
set_option linter.all false
set_option maxRecDepth 100000
set_option maxHeartbeats 1000000
namespace K45
open PySem G
theorem e0 (k : Nat) : WholeI (phi T (k+1) 0) := wholeP (N := ["value"]) (frz := false)  fun _ => rfl
theorem e1 (k : Nat) : BetwI (phi T (k+2) 1) := betwP (N := ["value", "low", "high"]) (frz := false) (e0 (k+0)) fun _ _ _ => rfl
theorem e2 (k : Nat) : TupOf (phi T (k+1) 2) := tupOfP (N := ["value", "many"]) (frz := false)  fun _ _ => rfl
theorem e3 (k : Nat) : DistI (phi T (k+3) 3) := distP (N := ["value"]) (frz := false) (e1 (k+0)) fun _ => rfl
theorem e6 (k : Nat) : PairsOf (phi T (k+1) 6) := pairsP (N := ["many", "one", "two"]) (frz := false)  fun _ => rfl
theorem e4 (k : Nat) : TabI (phi T (k+4) 4) := tabP (N := ["value", "many", "row", "each", "place", "one", "two"]) (frz := false) (e2 (k+2)) (e3 (k+0)) (e6 (k+2)) fun _ => rfl
theorem e5 (k : Nat) : PlacesOf (phi T (k+1) 5) := placesP (N := ["table"])  fun _ => rfl
theorem e7 (k : Nat) : ChkTab (phi T (k+5) 7) := chkTabP (N := ["value"]) (frz := false) (e4 (k+0)) fun _ => rfl
theorem e8 (k : Nat) : ChkPlace (phi T (k+3) 8) := chkPlaceP (N := ["table", "value"]) (frz := false) (e1 (k+0)) fun _ _ => rfl
theorem e9 (k : Nat) : ChkTwo (phi T (k+4) 9) := chkTwoP (N := ["table", "place", "other"]) (frz := false) (e8 (k+0)) fun _ _ _ => rfl
theorem e10 (k : Nat) : PathSum (phi T (k+1) 10) := pathSumP (N := ["table", "path", "at"]) (frz := false)  fun _ _ => rfl
theorem e11 (k : Nat) : PathScored (phi T (k+2) 11) := leastPathP (N := ["table", "place", "other", "middle", "paths", "each", "rest", "path"]) (frz := false) (e5 (k+0)) (e10 (k+0)) fun _ _ _ => rfl
theorem e12 (k : Nat) : PathTo (phi T (k+3) 12) (fun n M a b => .int (lenP M (lp n M a b))) := ixPath0P (N := ["table", "place", "other"]) (frz := false) (e11 (k+0)) fun _ _ _ => rfl
theorem e13 (k : Nat) : PathTo (phi T (k+3) 13) (fun n M a b => pathD (lp n M a b)) := ixPath1P (N := ["table", "place", "other"]) (frz := false) (e11 (k+0)) fun _ _ _ => rfl
theorem e14 (k : Nat) : PathTo (phi T (k+6) 14) (fun _ _ _ _ => .non) := chkEndsP (N := ["table", "place", "other"]) (frz := false) (e7 (k+0)) (e9 (k+1)) fun _ _ _ => rfl
theorem e15 (k : Nat) : PathTo (phi T (k+7) 15) (fun n M a b => .int (lenP M (lp n M a b))) := chkPathP (N := ["table", "place", "other"]) (frz := false) (e14 (k+0)) (e12 (k+3)) (fun _ _ _ _ _ => rfl) fun _ _ _ => rfl
theorem e16 (k : Nat) : PathTo (phi T (k+7) 16) (fun n M a b => pathD (lp n M a b)) := chkPathP (N := ["table", "place", "other"]) (frz := false) (e14 (k+0)) (e13 (k+3)) (fun _ _ _ _ _ => bels_nats _ _) fun _ _ _ => rfl
theorem e18 (k : Nat) : DrawOK (phi T (k+1) 18) := drawP (N := ["pool", "many", "figure", "held"]) (frz := false) (M := 2147483543) (by decide) fun _ _ => rfl
theorem e19 (k : Nat) : PickOK (phi T (k+2) 19) := pickP (N := ["pool", "some"]) (frz := false) (e18 (k+0)) fun _ _ => rfl
theorem e21 (k : Nat) : TableOK (phi T (k+3) 21) (fun _ _ => True) := anyP (N := ["pool", "many", "high", "rows", "one", "two", "place", "row"]) (frz := false) (e18 (k+1)) (e19 (k+0)) fun _ _ => rfl
theorem e24 (k : Nat) : MixedOK (phi T (k+3) 24) := mixedP (N := ["pool", "many", "left", "found", "lap", "place", "each"]) (frz := false) (e19 (k+0)) fun _ _ => rfl
theorem e22 (k : Nat) : TableOK (phi T (k+4) 22) (fun n M => FP n (getM M)) := treeP (N := ["pool", "many", "size", "place", "far", "high", "root", "gap", "other", "some", "one", "two"]) (frz := false) (e18 (k+2)) (e19 (k+1)) (e24 (k+0)) fun _ _ => rfl
theorem e23 (k : Nat) : CutOK (phi T (k+3) 23) := cutP (N := ["pool", "ring", "many", "rows", "high", "start", "stop", "inside", "number", "one", "two", "place", "row"]) (frz := false) (e18 (k+1)) (e19 (k+0)) fun _ _ => rfl
theorem e25 (k : Nat) : TableOK (phi T (k+5) 25) (fun _ _ => True) := kindP (N := ["pool", "many", "sort", "spots", "place", "one", "two"]) (frz := false) (e18 (k+3)) (e22 (k+0)) (e23 (k+1)) (e24 (k+1)) (e21 (k+1)) fun _ _ => rfl
theorem e26 (k : Nat) : OrdersOf (phi T (k+1) 26) := ordersP (N := ["some", "found", "lap", "more", "row", "place"]) (frz := false)  fun _ => rfl
theorem e27 (k : Nat) : PathSum (phi T (k+1) 27) := wayP (N := ["table", "row", "one", "two"]) (frz := false)  fun _ _ => rfl
theorem e17 (k : Nat) : PoolOK (phi T (k+1) 17) := fun ns lap S hn => poolP (N := ["script", "lap", "own", "stirred", "cell"]) (M := 2147483543) (by decide) (fun _ _ => rfl) hn lap S
theorem e20 (k : Nat) : ∀ n, SameAt n (phi T (k+n+1) 20)
  | 0 => sameP (N := ["one", "other", "k"]) (frz := false) (fun m h => by cases h) fun _ _ => rfl
  | n + 1 => sameP (N := ["one", "other", "k"]) (frz := false) (fun m h => by cases h; exact e20 k n) fun _ _ => rfl

theorem fnkB {i : Nat} {ps ks : List Str} {r : Ph → Ro → M (List D)} {Φ : Ph} {ρ : Ro} {S S1 : Store} {ds es : List D} (h : r Φ ρ S = .ok ds S1) (e : arr ps 0 ks [] ds = es) : eFnK i ps 0 ks aNil r Φ ρ S = Φ i es S1 := by
  unfold eFnK
  rw [bind_of args0, bind_of h, e]
theorem arr3 (x y z : D) : arr [PySem.Str.ofString "table", PySem.Str.ofString "place", PySem.Str.ofString "other"] 0 [PySem.Str.ofString "other", PySem.Str.ofString "place", PySem.Str.ofString "table"] [] [x, y, z] = [z, y, x] := rfl
theorem e29 (k : Nat) (h : RightOK (phi T (k+8) 28)) : LapsOK (phi T (k+9) 29) := lapsP (N := ["script", "lap"]) (frz := false) (e17 (k+7)) h fun _ => rfl
def duesD (i : Int) (p : List Nat) : List D := [.int i, pathD p]
theorem dues_vd (i : Int) (p : List Nat) : Vd 0 (.lst (duesD i p)) := by
  refine ⟨fun _ => by simp, ?_⟩
  show (true && (D.shps 28 (natsD p) && true)) = true
  rw [shps_nats]; rfl
theorem e28 (k : Nat) : RightOK (phi T (k+8) 28) := by
  intro S w c h hc
  rw [eq28]; dsimp only [f28]
  have hw : ∀ c, (S.set w c)[w]? = some c := fun c => get_set h
  refine rightQ ?_
  refine qloop (S0 := S) (xs := [.int (2 : Nat), .int (3 : Nat), .int (4 : Nat), .int (5 : Nat), .int (6 : Nat)]) rfl
    (fun r ρ S' => (∀ d ∈ r, ∃ n : Nat, d = .int (n : Nat) ∧ 2 ≤ n ∧ n ≤ 6) ∧ ∃ (c : Cell) (x1 x2 x3 x4 x5 x6 x7 x8 x9 x10 x11 : Option D), S' = S.set w c ∧ IsPool c ∧ ρ = [some (.ref w), x1, x2, x3, x4, x5, x6, x7, x8, x9, x10, x11, none, none, none, none, none, none, none]) ⟨?_, c, none, none, none, none, none, none, none, none, none, none, none, (set_id h).symm, hc, rfl⟩ ?_ ?_
  · simp only [List.forall_mem_cons]
    exact ⟨⟨2, rfl, by decide, by decide⟩, ⟨3, rfl, by decide, by decide⟩, ⟨4, rfl, by decide, by decide⟩, ⟨5, rfl, by decide, by decide⟩, ⟨6, rfl, by decide, by decide⟩, fun _ z => by cases z⟩
  · rintro d r ρ S' ⟨hr, c, x1, x2, x3, x4, x5, x6, x7, x8, x9, x10, x11, rfl, hc, rfl⟩
    obtain ⟨n, rfl, n2, n6⟩ := hr d List.mem_cons_self
    obtain ⟨M, c1, g1, hc1, tb, _⟩ := e25 (k+2) (S.set w c) w c n (hw c) hc (by omega) (by omega)
    rw [List.set_set] at g1
    refine ⟨_, _, rfl, qasg (S1 := S.set w c1) (d := tbl M) ((fn2 rfl rfl).trans g1) rfl ?_⟩
    refine qloopE (S0 := S.set w c1) (xs := rngD 0 3) (src_rng (n := 3) rfl (by decide)) (fun r ρ S' => ∃ (c : Cell) (x3 x4 x5 x6 x7 x8 x9 x10 x11 : Option D), S' = S.set w c ∧ IsPool c ∧ ρ = [some (.ref w), some (.int (n : Nat)), some (tbl M), x3, x4, x5, x6, x7, x8, x9, x10, x11, none, none, none, none, none, none, none]) ⟨c1, _, _, _, _, _, _, _, _, _, rfl, hc1, rfl⟩ ?_ ?_
    · rintro lap r ρ S' ⟨c, x3, x4, x5, x6, x7, x8, x9, x10, x11, rfl, hc, rfl⟩
      refine ⟨_, _, rfl, ?_⟩
      -- the two places
      obtain ⟨v, c2, g2, hc2, v0, v1⟩ := e18 (k+6) (S.set w c) w c n (hw c) hc (by omega) (by omega)
      obtain ⟨a, rfl⟩ : ∃ a : Nat, v = (a : Nat) := ⟨v.toNat, by omega⟩
      obtain ⟨u, c3, g3, hc3, u0, u1⟩ := e18 (k+6) (S.set w c2) w c2 ((n : Nat) - 1) (hw c2) hc2 (by omega) (by omega)
      obtain ⟨t, rfl⟩ : ∃ t : Nat, u = (t : Nat) := ⟨u.toNat, by omega⟩
      rw [List.set_set] at g2 g3
      have han : a < n := by omega
      obtain ⟨b, hb⟩ : ∃ b, b = (a + 1 + t) % n := ⟨_, rfl⟩
      have hbn : b < n := by rw [hb]; exact Nat.mod_lt _ (by omega)
      have hne : a ≠ b := by
        intro z
        by_cases q : a + 1 + t < n
        · rw [Nat.mod_eq_of_lt q] at hb; omega
        · have : (a + 1 + t) % n = a + 1 + t - n := by
            rw [Nat.mod_eq_sub_mod (by omega), Nat.mod_eq_of_lt (by omega)]
          omega
      have ok := paths_ok n6 han hbn hne
      have ok' := paths_ok n6 hbn han (Ne.symm hne)
      generalize hS2 : S.set w c2 = S2 at g2 g3
      generalize hS3 : S.set w c3 = S3 at g3
      refine qasg (S1 := S2) (d := .int (a : Nat)) ((fn2 rfl rfl).trans g2) rfl ?_
      refine qasg (S1 := S3) (d := .int (b : Nat)) (bin_b (S1 := S3) (S2 := S3) (x := .int ((a : Int) + 1 + t)) (y := .int (n : Nat)) ((call1 (bin_b (S1 := S2) (S2 := S3) (x := .int ((a : Int) + 1)) (y := .int (t : Nat)) rfl ((fn2 rfl (bin_b rfl rfl (sub_b rfl))).trans g3) (add_b rfl))).trans rfl) rfl ((mod_ok (by omega) S3).trans ?_)) rfl ?_
      · congr 2
        rw [hb, Int.natCast_emod]; congr 1
      refine qasg (S1 := S3) (d := .tup (natsD (mid n a b))) ((call1 (eLc_filtM (S1 := S3) (l := List.range n) (fun i => D.int (i : Nat)) (fun p => !(p == a) && !(p == b)) (fun i => D.int (i : Nat)) ((src_rng (n := n) rfl (by omega)).trans (by rw [rngD_map])) (by rw [List.length_range]; omega) fun i hi => ⟨_, rfl, (cmp_of (y := .tup (natsD [a, b])) rfl (tup_of (args2 rfl rfl) (by show 2 ≤ _; decide)) notIn_nats).trans (by rw [memB2]), fun _ => rfl⟩)).trans rfl) rfl ?_
      have ml := ok.ml
      have plen := ok.len
      have eo := ord_perm (mid_nodup n a b) (by omega : (mid n a b).length ≤ 5)
      refine qasg (S1 := S3) (d := .lst ((pathsN n a b).map pathD)) ?_ rfl ?_
      · have ep : (pathsN n a b).map pathD = (permN (mid n a b)).map fun r => pathD (a :: (r ++ [b])) := by unfold pathsN; rw [List.map_map]; rfl
        rw [ep]
        refine eLc_mapM (S1 := S3) (l := permN (mid n a b)) pathD (fun r => pathD (a :: (r ++ [b]))) (srcL ((fn1 rfl).trans ((e26 (k+6) (mid n a b) S3 (by omega)).trans (by rw [eo])))) (by have := permN_len (xs := mid n a b) (by omega); omega) fun p hp => ⟨_, rfl, rfl, ?_⟩
        have pl := (permN_mem (by omega) hp).1
        refine bin_b (S1 := S3) (S2 := S3) (x := .tup (natsD [a] ++ natsD p)) (y := .tup (natsD [b])) (bin_b (S1 := S3) (S2 := S3) (x := .tup (natsD [a])) (y := pathD p) (tup_of (args1 rfl) (by show 1 ≤ _; decide)) rfl (oAddT ?_)) (tup_of (args1 rfl) (by show 1 ≤ _; decide)) ((oAddT ?_).trans ?_)
        · unfold natsD; rw [List.length_map, List.length_map, pl]; simp; omega
        · rw [List.length_append]; unfold natsD; rw [List.length_map, List.length_map, List.length_map, pl]; simp; omega
        · simp [pathD, natsD]
      refine qasg (S1 := S3) (d := .lst (((pathsN n a b).map fun p => lenP M p).map D.int)) ?_ rfl ?_
      · have em : ((pathsN n a b).map fun p => lenP M p).map D.int = (pathsN n a b).map fun p => D.int (lenP M p) := by rw [List.map_map]; rfl
        rw [em]
        refine eLc_mapM (S1 := S3) (l := pathsN n a b) pathD (fun p => D.int (lenP M p)) (srcL rfl) (by omega) fun p hp => ⟨_, rfl, rfl, ?_⟩
        obtain ⟨k1, k2, _⟩ := ok.mem p hp
        exact (fn2 rfl rfl).trans (e27 (k+6) n M p S3 tb.sq (by omega) (by omega) k2)
      -- what is due
      obtain ⟨x, q, e⟩ := ok.ex
      have el : lp n M a b = firstMin (fun p => lenP M p) x q := by unfold lp; rw [e]
      have mn : minI ((pathsN n a b).map fun p => lenP M p) = some (lenP M (lp n M a b)) := by rw [e, minI_first, el]
      have lmem := (lp_mem ok M).1
      have nmem : lenP M (lp n M a b) ∈ (pathsN n a b).map fun p => lenP M p := List.mem_map_of_mem lmem
      have nat : (pathsN n a b).getD (ixOf (lenP M (lp n M a b)) ((pathsN n a b).map fun p => lenP M p)) [] = lp n M a b := by
        have z := (firstMin_ok (fun p => lenP M p) [] q x).2.2
        rw [el, e]; exact z
      have nix := (ixOf_ok nmem).1
      rw [List.length_map] at nix
      have mn1 : ∀ ρ : Ro, eVar 8 (phi T (k+7)) ρ S3 = .ok (.lst (((pathsN n a b).map fun p => lenP M p).map D.int)) S3 → eCall (op1 fMin1) (aCons (eVar 8) aNil) (phi T (k+7)) ρ S3 = .ok (.int (lenP M (lp n M a b))) S3 := fun ρ q => (call1 q).trans (min_ints mn)
      refine qasg (S1 := S3) (d := .lst (duesD (lenP M (lp n M a b)) (lp n M a b))) (lst_of (args2 (S1 := S3) (S2 := S3) (mn1 _ rfl) (bin_b (S1 := S3) (S2 := S3) rfl ((mtL_of rfl rfl (args1 (mn1 _ rfl))).trans (idx_lst nmem)) (oIx_of (xs := (pathsN n a b).map pathD) rfl ?_))) (by show 2 ≤ _; decide)) rfl ?_
      · rw [atI_map, atI_nat _ _ nix]
        rw [G.getD_at nix] at nat
        rw [nat]; rfl
      -- what is told
      have t1 := e15 k n M a b S3 tb n6 han hbn hne
      have t2 := e16 k n M a b S3 tb n6 han hbn hne
      refine qasg (S1 := S3) (d := .lst (duesD (lenP M (lp n M a b)) (lp n M a b))) (lst_of (args2 (S1 := S3) (S2 := S3) ((fn3 rfl rfl rfl).trans t1) ((fn3 rfl rfl rfl).trans t2)) (by show 2 ≤ _; decide)) rfl ?_
      subst hS3
      obtain ⟨y, c4, g4, hc4, _, _⟩ := e18 (k+6) (S.set w c3) w c3 2 (hw c3) hc3 (by decide) (by decide)
      rw [List.set_set] at g4
      have s1 := e15 k n M a b (S.set w c4) tb n6 han hbn hne
      have s2 := e16 k n M a b (S.set w c4) tb n6 han hbn hne
      have s3 := e15 k n M b a (S.set w c4) tb n6 hbn han (Ne.symm hne)
      replace s3 : phi T (k+7) 15 _ _ = .ok (.int (lenP M (lp n M b a))) _ := s3
      rw [lp_rev tb ok ok'] at s3
      generalize hS4 : S.set w c4 = S4 at g4 s1 s2 s3
      refine qseq (ρ1 := [some (.ref w), some (.int (n : Nat)), some (tbl M), some lap, some (.int (a : Nat)), some (.int (b : Nat)), some (.tup (natsD (mid n a b))), some (.lst ((pathsN n a b).map pathD)), some (.lst (((pathsN n a b).map fun p => lenP M p).map D.int)), some (.lst (duesD (lenP M (lp n M a b)) (lp n M a b))), some (.lst (duesD (lenP M (lp n M a b)) (lp n M a b))), x11, none, none, none, none, none, none, none]) (S1 := S4) (sif_b (cmp_of (S1 := S4) ((fn2 rfl rfl).trans g4) rfl (eqi_b rfl)) ?_) ?_
      · refine cond_both ?_ rfl
        refine asg_b (S1 := S4) (d := .lst (duesD (lenP M (lp n M a b)) (lp n M a b))) (lst_of (args2 (S1 := S4) (S2 := S4) ((fnkB (args3 (S1 := S4) (S2 := S4) rfl rfl rfl) (arr3 _ _ _)).trans s1) ((fnkB (args3 (S1 := S4) (S2 := S4) rfl rfl rfl) (arr3 _ _ _)).trans s2)) (by show 2 ≤ _; decide)) rfl rfl
      refine qskip (S1 := S4) (vor_of (p := false) (q := false) (vnot_of (p := true) (tv_of ((fn2 rfl rfl).trans (e20 (k+6) 0 _ _ (dues_vd _ _))))) fun _ => cmp_of (S1 := S4) (S2 := S4) ((fn3 rfl rfl rfl).trans s3) (bin_b (y := .int (0 : Nat)) rfl rfl (oIx_of (xs := duesD (lenP M (lp n M a b)) (lp n M a b)) rfl rfl)) (nei_b (by rw [beq_self_eq_true]; rfl))) ?_
      -- with so much more
      obtain ⟨fr, hfr, V, hV, low⟩ := max_rows tb (by omega)
      refine qif (S1 := S4) (p := decide (V < 900)) (cmp_of (S1 := S4) (S2 := S4) (x := .int V) (y := .int 900) ((call1 (eLc_mapM (S1 := S4) (l := M) (fun r => D.tup (r.map D.int)) (fun r => D.int (fr r)) (srcT rfl) (by rw [tb.sq.1]; omega) fun r hr => ⟨_, rfl, rfl, (call1 rfl).trans (max_tup (hfr r hr))⟩)).trans ?_) rfl (lt_b rfl)) ?_
      · have em : (M.map fun r => D.int (fr r)) = (M.map fr).map D.int := by rw [List.map_map]; rfl
        rw [em]
        exact max_ints hV
      by_cases hb9 : V < 900
      · rw [decide_eq_true hb9]
        have tm : TbI n (shiftM 9 n M) := shift_tb tb (by decide) fun i j hi hj => by have := low i j hi hj; omega
        have m1 : phi T (k+7) 15 _ _ = .ok (.int (lenP _ (lp n _ a b))) _ := e15 k n _ a b S4 tm n6 han hbn hne
        have m2 : phi T (k+7) 16 _ _ = .ok (pathD (lp n _ a b)) _ := e16 k n _ a b S4 tm n6 han hbn hne
        obtain ⟨q1, q2⟩ := lp_shift (c := 9) (M := M) ok
        rw [q1] at m1 m2
        rw [q2] at m1
        refine qasg (S1 := S4) (d := tbl (shiftM 9 n M)) ?_ rfl (qskipE (S1 := S4) (vnot_of (p := true) (tv_of ((fn2 (S1 := S4) (S2 := S4) (x := .lst (duesD (lenP M (lp n M a b) + 9 * ((n - 1 : Nat) : Int)) (lp n M a b))) (y := .lst (duesD (lenP M (lp n M a b) + 9 * ((n - 1 : Nat) : Int)) (lp n M a b))) (lst_of (args2 (S1 := S4) (S2 := S4) ((fn3 rfl rfl rfl).trans m1) ((fn3 rfl rfl rfl).trans m2)) (by show 2 ≤ _; decide)) ?_).trans (e20 (k+6) 0 _ _ (dues_vd _ _))))) ?_)
        · rw [tbl_shift]
          refine (call1 (eLc_mapM (S1 := S4) (l := List.range n) (fun i => D.tpk [.int (i : Nat), .tup ((M.getD i []).map D.int)]) (fun i => D.tup ((List.range n).map fun j => D.int (if i = j then 0 else getM M i j + 9))) ((vsrc_of (args1 rfl)).trans (enum_tbl tb.sq S4)) (by rw [List.length_range]; omega) fun i hi => ⟨_, rfl, rfl, ?_⟩)).trans rfl
          have hi := List.mem_range.mp hi
          have rl := tb.sq.row hi
          refine (call1 (eLc_mapM (S1 := S4) (l := List.range n) (fun j => D.tpk [.int (j : Nat), .int ((M.getD i []).getD j 0)]) (fun j => D.int (if i = j then 0 else getM M i j + 9)) ((vsrc_of (args1 rfl)).trans (show R.ok (fixS (enumD 0 ((M.getD i []).map D.int))) S4 = _ by rw [enumD_ints, rl])) (by rw [List.length_range]; omega) fun j hj => ⟨_, rfl, rfl, ?_⟩)).trans rfl
          refine eif_b (cmp_of rfl rfl (nei_b rfl)) ?_
          by_cases eij : i = j
          · subst eij
            rw [if_pos rfl, beq_self_eq_true]; rfl
          · rw [if_neg eij, beq_eq_false_iff_ne.mpr (by omega : ((i : Nat) : Int) ≠ ((j : Nat) : Int))]
            exact cond_t (bin_b rfl rfl (add_b rfl))
        · refine lst_of (args2 (S1 := S4) (S2 := S4) (bin_b (S1 := S4) (S2 := S4) (x := .int (lenP M (lp n M a b))) (y := .int (9 * ((n - 1 : Nat) : Int))) (bin_b (y := .int (0 : Nat)) rfl rfl (oIx_of (xs := duesD (lenP M (lp n M a b)) (lp n M a b)) rfl rfl)) (bin_b (S1 := S4) (S2 := S4) (x := .int 9) (y := .int ((n : Int) - 1)) rfl (bin_b rfl rfl (sub_b rfl)) ?_) (add_b rfl)) (bin_b (y := .int (1 : Nat)) rfl rfl (oIx_of (xs := duesD (lenP M (lp n M a b)) (lp n M a b)) rfl rfl))) (by show 2 ≤ _; decide)
          have : ((n : Nat) : Int) - 1 = ((n - 1 : Nat) : Int) := by omega
          rw [this]
          exact mul_ok' (by decide) S4
        · exact nx_done ⟨c4, _, _, _, _, _, _, _, _, _, hS4.symm, hc4, rfl⟩
      · rw [decide_eq_false hb9]
        exact nx_done ⟨c4, _, _, _, _, _, _, _, _, _, hS4.symm, hc4, rfl⟩
    · rintro ρ S' ⟨c, x3, x4, x5, x6, x7, x8, x9, x10, x11, rfl, hc, rfl⟩
      exact nx_done ⟨fun z hz => hr z (List.mem_cons_of_mem _ hz), c, _, _, _, _, _, _, _, _, _, _, _, rfl, hc, rfl⟩
  · rintro ρ S' ⟨_, c, x1, x2, x3, x4, x5, x6, x7, x8, x9, x10, x11, rfl, hc, rfl⟩
    have s1 : TbI 4 [[0, 1, 3, 4], [1, 0, 2, 3], [3, 2, 0, 1], [4, 3, 1, 0]] := tb_of (by decide)
    have s2 : TbI 4 [[0, 1, 2, 1], [1, 0, 1, 2], [2, 1, 0, 1], [1, 2, 1, 0]] := tb_of (by decide)
    have s3 : TbI 2 [[0, 4], [4, 0]] := tb_of (by decide)
    have p1 : lp 4 [[0, 1, 3, 4], [1, 0, 2, 3], [3, 2, 0, 1], [4, 3, 1, 0]] 0 3 = [0, 1, 2, 3] := by decide +kernel
    have p2 : lenP [[0, 1, 3, 4], [1, 0, 2, 3], [3, 2, 0, 1], [4, 3, 1, 0]] [0, 1, 2, 3] = 4 := by decide +kernel
    have p3 : lenP [[0, 1, 2, 1], [1, 0, 1, 2], [2, 1, 0, 1], [1, 2, 1, 0]] (lp 4 [[0, 1, 2, 1], [1, 0, 1, 2], [2, 1, 0, 1], [1, 2, 1, 0]] 0 2) = 4 := by decide +kernel
    have p4 : lp 2 [[0, 4], [4, 0]] 1 0 = [1, 0] := by decide +kernel
    have u1 : phi T (k+7) 15 _ _ = .ok (.int (lenP _ (lp 4 _ 0 3))) _ := e15 k 4 _ 0 3 (S.set w c) s1 (by decide) (by decide) (by decide) (by decide)
    have u2 : phi T (k+7) 16 _ _ = .ok (pathD (lp 4 _ 0 3)) _ := e16 k 4 _ 0 3 (S.set w c) s1 (by decide) (by decide) (by decide) (by decide)
    have u3 : phi T (k+7) 15 _ _ = .ok (.int (lenP _ (lp 4 _ 0 2))) _ := e15 k 4 _ 0 2 (S.set w c) s2 (by decide) (by decide) (by decide) (by decide)
    have u4 : phi T (k+7) 16 _ _ = .ok (pathD (lp 2 _ 1 0)) _ := e16 k 2 _ 1 0 (S.set w c) s3 (by decide) (by decide) (by decide) (by decide)
    rw [p1] at u1 u2
    rw [p2] at u1
    rw [p3] at u3
    rw [p4] at u4
    refine qasgG (S1 := S.set w c) (S2 := S.set w c) (d := .tup [tbl [[0, 1, 3, 4], [1, 0, 2, 3], [3, 2, 0, 1], [4, 3, 1, 0]], tbl [[0, 1, 2, 1], [1, 0, 1, 2], [2, 1, 0, 1], [1, 2, 1, 0]]]) rfl rfl ?_
    exact qret (S1 := S.set w c) (d := .bl true) ((fn2 (x := .lst [.int 4, pathD [0, 1, 2, 3], .int 4, pathD [1, 0]]) (y := .lst [.int 4, pathD [0, 1, 2, 3], .int 4, pathD [1, 0]]) (S1 := S.set w c) (S2 := S.set w c) (lst_of (args_cons (S1 := S.set w c) ((fn3 rfl rfl rfl).trans u1) (args3 (S1 := S.set w c) (S2 := S.set w c) ((fn3 rfl rfl rfl).trans u2) ((fn3 rfl rfl rfl).trans u3) ((fn3 rfl rfl rfl).trans u4))) (by show 4 ≤ _; decide)) rfl).trans (e20 (k+6) 0 _ _ ⟨fun _ => by simp, rfl⟩)) ⟨_, _, rfl, rfl, c, [], hc, by rw [List.append_nil]⟩
theorem main : PySem.Challenge.rw_roundorders_k45_whole_least_paths.Holds := holds 9 (by decide) ⟨rfl, by decide, by decide⟩ fun ns hn => e29 0 (e28 0) ns hn
end K45
end

set_option maxRecDepth 1000000 in
theorem PySem.Challenge.cw_roundorders_k45_whole_least_paths_holds : PySem.Challenge.rw_roundorders_k45_whole_least_paths.Holds := by
  exact K45.main
