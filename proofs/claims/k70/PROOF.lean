import PyProof.Rows.All
import Wide.All
import OpenK.AllK
import Wide.FinOn
import HandS.ForMost
import HandS.ForExc
import HandS.TupAny
import HandS.Style
import KE.DataEq
import KE.KEqDict
import HandS.ExcInit
import HandS.Defaults
import HandS.Property
import HandS.MakeKw
import HandS.IsInst
import HandS.Strs
import KE.DataIsa
import KE.SortData
import PyProof.ReprRoads
import HandS.NoneIn
import HandS.SetFor
import HandS.More
import HandS.Comp
import HandS.ClsMeth
import HandS.TryOnly
import HandS.Text
import HandS.Deep
import HandS.RaiseMore
import HandS.Rev
import KE.KIndexOf
import HandS.Words
import HandS.WordsExc
import HandS.HeadHook1
import HandS.HeadHook2
import HandS.HeadHook3
import KE.KStateDown
import HandS.Ends
import HandS.Head0
import HandS.Head1
import HandS.Head2
import HandS.HeadEnd
import PySem.Challenge.RW_switchhills_k70_whole_one_and_two_judged
set_option Elab.async false
set_option linter.all false
set_option maxHeartbeats 4000000
set_option maxRecDepth 100000
namespace PD
open PySem PySem.Spec L2
open PyProof.Rows hiding St
def TupS (K : PySem.W.Frag) (F : Hp) (a : Addr) (vs : List V) : Prop :=
  (∃ o : Obj, F a = some (.frz o (.tup vs)) ∧ o.dict = none) ∨ ∃ (o : Obj) (its : Array Value) (n : Nat), K.lookup a = some o ∧ o.dict = none ∧ o.cls = .type "tuple" ∧ o.data = .seq its n ∧ its.size ≤ sizeLine ∧ Vals vs its.toList
theorem TupS.sq {K : PySem.W.Frag} {F : Hp} {a : Addr} {vs : List V} (h : TupS K F a vs) : SqT K F a vs := by
  rcases h with ⟨o, h, _⟩ | ⟨o, its, n, h1, _, h2⟩
  · exact .inl (.inr ⟨o, h⟩)
  · exact .inr ⟨o, its, n, h1, h2⟩
def layT (H : Hp) (Q : VK) (vs : List V) : Prop := ∀ (p : Addr) (o : Obj), H p = none → o.dict = none → Q (.ref p) (upd H p (.frz o (.tup vs)))
section
variable {X : Cx} {pins : List (Addr × Obj)} {σ : L2.St} {H : Hp} {s : Shared} {a : Addr} {xs : List V}
theorem tupS_at (I : L2.Inv X pins σ H s) (h : TupS X.K H a xs) : ∃ (its : List Value) (o : Obj) (n : Nat), Vals xs its ∧ s.heap.get? a = some o ∧ o.cls = .type "tuple" ∧ o.data = .seq its.toArray n ∧ o.dict = none ∧ xs.length ≤ sizeLine := by
  rcases h with ⟨o, h, hd⟩ | ⟨o, its, n, hk, hd, hc, hs, hz, r⟩
  · obtain ⟨e, z, its, r, o', e', hc, n, hs⟩ := (show ObjOk X.prog X.w H s.heap a (.frz o (.tup xs)) from I.hok a _ h)
    rw [e] at e'
    cases e'
    exact ⟨its, o, n, r, e, hc, hs, hd, z⟩
  · refine ⟨its.toList, o, n, r, I.kIn a o hk, hc, by simpa using hs, hd, ?_⟩
    have e := r.length
    simp only [Array.length_toList] at e
    omega
theorem laid_tup {items : List Value} {h : Heap} {t' : Nat} {Q : VK} (I : L2.Inv X pins σ H s) (k : ∀ b o, s.heap.get? b = some o → h.get? b = some o) (hs : s.heap.objs.size ≤ h.objs.size) (r : Vals xs items) (hz : xs.length ≤ sizeLine) (q : layT H Q xs) :
    EP X pins σ Q (.ref h.objs.size) { s with heap := h.push { cls := .type "tuple", data := .seq items.toArray }, toks := t' } := by
  have hn : H h.objs.size = none := I.hok.fresh hs
  refine ⟨.ref h.objs.size, _, I.laid (t' := t') (o := .frz { cls := .type "tuple", data := .seq items.toArray } (.tup xs)) (fun b o e => Heap.get?_push_of_some _ (k b o e)) hs ?_, rfl, q _ _ hn rfl⟩
  exact ⟨Heap.get?_push_size _ rfl, hz, items, r, IsTup.new _ _⟩
end
section
variable {X : Cx} {es : List Expr} {t : TA} {pos : Pos}
def tTupZ (t : TA) : TE := fun σ H Q => t σ H fun xs H1 => xs.length ≤ sizeLine ∧ layT H1 Q xs
theorem pe_tupZ {j : Nat} (h : PA X es t) : PE X (.Tuple es j pos) (tTupZ t) := by
  refine ⟨fun pins s σ H Q I hq => ?_⟩
  exact wpAny_Tuple_spliced (thn (h.run pos pins s σ H _ I hq) fun us s1 ⟨xs, H1, I1, r, z, q⟩ => ⟨by rw [← r.length]; exact z, laid_tup (t' := s1.toks) I1 (fun _ _ e => e) (Nat.le_refl _) r z q⟩)
def rCatZ (K : PySem.W.Frag) : R2 := fun x y H Q => ∃ a b xs ys, x = .ref a ∧ y = .ref b ∧ SqT K H a xs ∧ SqT K H b ys ∧ xs.length + ys.length ≤ sizeLine ∧ (xs = [] → Q (.ref b) H) ∧ (xs ≠ [] → ys = [] → Q (.ref a) H) ∧ (xs ≠ [] → ys ≠ [] → layT H Q (xs ++ ys))
theorem op_catZ : OpR X (binaryOp .Add) (rCatZ X.K) := by
  intro pins s σ H x y v u Q I rx ry h
  obtain ⟨a, b, xs, ys, rfl, rfl, ha, hb, hz, q0, q1, q2⟩ := h
  cases rx
  cases ry
  obtain ⟨its, r1, p1, _⟩ := I.tuple ha
  obtain ⟨its2, r2, p2, _⟩ := I.tuple hb
  by_cases hx : xs = []
  · subst hx
    cases r1
    exact cat_tup0 p1 p2 ⟨.ref b, H, I, rfl, q0 rfl⟩
  · refine HT.cat_tup p1 p2 (fun z => hx (r1.nil_iff.mp z)) (fun z => ⟨.ref a, H, I, rfl, q1 hx (r2.nil_iff.mp z)⟩) (fun z => ?_) (by rw [← r1.length, ← r2.length]; exact hz)
    exact laid_tup (t' := s.toks) I (fun _ _ e => e) (Nat.le_refl _) (r1.append r2) (by rw [List.length_append]; exact hz) (q2 hx fun e => z (r2.nil_iff.mpr e))
def rSlZ (K : PySem.W.Frag) : V → Option Int → Option Int → Hp → VK → Prop := fun x lo hi H Q => ∃ a xs, x = .ref a ∧ SqT K H a xs ∧
  (HT.sIx xs.length 0 lo = 0 ∧ HT.sIx xs.length xs.length hi = xs.length → Q (.ref a) H) ∧ (¬ (HT.sIx xs.length 0 lo = 0 ∧ HT.sIx xs.length xs.length hi = xs.length) → layT H Q (cutV xs lo hi))
theorem sl_tupZ : SlR X (rSlZ X.K) := by
  intro pins s σ H x v vl vu lo hi sl Q I rx hs pl pu h
  obtain ⟨a, xs, rfl, hx, q1, q2⟩ := h
  cases rx
  obtain ⟨its, r, ht, hz⟩ := I.tuple hx
  have hlen : its.toArray.size = xs.length := by rw [List.size_toArray]; exact r.length.symm
  refine ⟨"tuple", _, PyProof.Rows.slot_tuple_getitem.lookup, ht.typeIs, ?_⟩
  by_cases hw : HT.sIx xs.length 0 lo = 0 ∧ HT.sIx xs.length xs.length hi = xs.length
  · exact getItem_tuple_whole ht hs pl pu (by rw [hlen]; exact hw) ⟨.ref a, H, I, rfl, q1 hw⟩
  · refine HT.getItem_tuple_cut ht hs pl pu (by rw [hlen]; exact hw) ?_ (by rw [hlen]; exact hz)
    rw [hlen]
    exact laid_tup (t' := s.toks) I (fun _ _ e => e) (Nat.le_refl _) ((r.drop (HT.sIx xs.length 0 lo)).take (HT.sIx xs.length xs.length hi - HT.sIx xs.length 0 lo)) (Nat.le_trans (cutV_length xs lo hi) hz) (q2 hw)
def rTupOf (K : PySem.W.Frag) : List V → Hp → VK → Prop := fun xs H Q => ∃ p ys, xs = [.ref p] ∧ ((SqL K H p ys ∧ layT H Q ys) ∨ (SqT K H p ys ∧ Q (.ref p) H))
theorem call_tupZ : CallR X (.type "tuple") (rTupOf X.K) := by
  intro pins s σ H xs us Q I r h
  obtain ⟨p, ys, rfl, h⟩ := h
  obtain ⟨u, rfl, rx⟩ := vals1 r
  cases rx
  rcases h with ⟨hq, q⟩ | ⟨hq, q⟩
  · obtain ⟨its, r', pl, hz⟩ := I.list hq
    have hlen := r'.length
    refine call_tuple_list pl.isList (fun h' kp => ?_) (by simp only [List.size_toArray] <;> omega)
    have I1 : L2.Inv X pins σ H { s with heap := h' } := I.kept (t' := s.toks) kp
    exact laid_tup (s := { s with heap := h' }) (t' := s.toks) I1 (fun _ _ e => e) (Nat.le_refl _) r' hz q
  · obtain ⟨its, r', pl, hz⟩ := I.tuple hq
    exact call_tuple_same pl ⟨.ref p, H, I, rfl, q⟩
theorem call_divmodZ : CallR X (.builtin "divmod") (fun xs H Q => ∃ i j, xs = [.int i, .int j] ∧ CDiv i j ∧ layT H Q [.int (i / j), .int (i % j)]) := by
  intro pins s σ H xs us Q I r h
  obtain ⟨i, j, rfl, ⟨h1, h2⟩, q⟩ := h
  obtain ⟨u, w', rfl, ⟨t, rfl⟩, ⟨t', rfl⟩⟩ := vals2 r
  refine divmod_int (by omega) ?_ (.inl (PyProof.noPylong_small (by omega)))
  rw [Int.fdiv_eq_ediv_of_nonneg i (by omega), Int.fmod_eq_emod_of_nonneg i (by omega)]
  exact laid_tup (xs := [.int (i / j), .int (i % j)]) (items := [.int (i / j) s.toks, .int (i % j) (s.toks + 1)]) I (fun _ _ e => e) (Nat.le_refl _) (.cons ⟨_, rfl⟩ (.cons ⟨_, rfl⟩ .nil)) (by simp only [List.length_cons, List.length_nil]; rw [sizeLine_eq]; decide) q
theorem adjust_rev (n : Nat) : Builtin.Slice.sliceAdjust none none (-1) (n : Int) = ((n : Int) - 1, -1) := by
  unfold Builtin.Slice.sliceAdjust
  simp
theorem places_rev (n : Nat) : Builtin.Slice.slicePlaces ((n : Int) - 1) (-1) (-1) = n := by
  unfold Builtin.Slice.slicePlaces
  rw [if_neg (by decide)]
  by_cases h : n = 0
  · subst h
    rfl
  · have h1 : ((n : Int) - 1) > -1 := by omega
    rw [if_pos h1]
    have e : ((n : Int) - 1 - -1 - 1) / (- -1) + 1 = (n : Int) := by
      rw [show (- -1 : Int) = 1 by decide, Int.ediv_one]
      omega
    rw [e]
    exact Int.toNat_natCast n
theorem pick_rev (xs : Array Value) : ((List.range xs.size).filterMap fun (m : Nat) => xs[(((xs.size : Int) - 1) + (m : Int) * -1).toNat]?).toArray = xs.toList.reverse.toArray := by
  have e : (fun (m : Nat) => xs[(((xs.size : Int) - 1) + (m : Int) * -1).toNat]?) = (fun (k : Nat) => xs[k]?) ∘ fun (m : Nat) => (((xs.size : Int) - 1) + (m : Int) * -1).toNat := rfl
  have e2 : (List.range xs.size).map (fun (m : Nat) => (((xs.size : Int) - 1) + (m : Int) * -1).toNat) = (List.range xs.size).reverse := by
    rw [← PySem.W.krv_range]
    apply List.map_congr_left
    intro m hm
    have := List.mem_range.mp hm
    omega
  rw [e, ← List.filterMap_map, e2, List.filterMap_reverse, PySem.W.krv_all]
section
variable {prog : Program} {w : World} {A : Around} {E : Value → Shared → Prop} {s : Shared}
theorem sliceApplied_rev {sl : Addr} {t : Tok} {n : Nat} {Q : Int × Int × Nat → Shared → Prop} (hs : s.heap.IsSliceOf sl .none .none (.int (-1) t)) (h : Q ((n : Int) - 1, -1, n) s) : wpAny (model prog w) A (Builtin.Slice.sliceApplied (.ref sl) (pure (n : Int))) Q E s := by
  obtain ⟨os, hos, hcs, hds⟩ := id hs
  unfold Builtin.Slice.sliceApplied Builtin.Slice.sliceFields
  refine wpAny_bind (wpAny_bind (wpAny_field hos hds (x := .none) rfl (wpAny_bind (wpAny_field hos hds (x := .none) rfl (wpAny_bind (wpAny_field hos hds (x := .int (-1) t) rfl (wpAny_pure ?_)))))))
  refine wpAny_bind (HT.slicePart_ (.int (-1) t) ?_)
  show wpAny _ _ (if ((-1 : Int) == 0) = true then _ else _) _ _ s
  rw [if_neg (by decide)]
  refine wpAny_bind (HT.slicePart_ .none (wpAny_bind (HT.slicePart_ .none (wpAny_bind (wpAny_pure ?_)))))
  show wpAny _ _ (match Builtin.Slice.sliceAdjust none none (-1) (n : Int) with | (lo, hi) => pure (lo, (-1 : Int), Builtin.Slice.slicePlaces lo hi (-1))) _ _ s
  rw [adjust_rev n]
  show wpAny _ _ (pure ((n : Int) - 1, (-1 : Int), Builtin.Slice.slicePlaces ((n : Int) - 1) (-1) (-1))) _ _ s
  rw [places_rev]
  exact wpAny_pure h
theorem getItem_tuple_rev {t sl : Addr} {items : Array Value} {tk : Tok} {Q : Value → Shared → Prop} (ht : IsTup s.heap t items) (hs : s.heap.IsSliceOf sl .none .none (.int (-1) tk))
    (h : Q (.ref s.heap.objs.size) { s with heap := s.heap.push { cls := .type "tuple", data := .seq items.toList.reverse.toArray } }) (hsz : items.size ≤ sizeLine) : wpAny (model prog w) A (getItem (.ref t) (.ref sl)) Q E s := by
  have htake : sizeOk (.seq items.toList.reverse.toArray) := by
    show items.toList.reverse.toArray.size ≤ sizeLine
    rw [List.size_toArray, List.length_reverse, Array.length_toList]
    exact hsz
  obtain ⟨os, hos, hcs, hds⟩ := id hs
  have hTs : s.TypeIs (.ref sl) "slice" := ⟨os, hos, hcs⟩
  unfold getItem
  try with_reducible refine wpAny_holding ?_
  first | refine wpAny_bind (wpAny_pure ?_) | skip
  refine wpAny_bind (wpAny_sequenceKey ht.typeIs (by decide) ?_)
  refine wpAny_bind (wpAny_callSpecial?_slot (name := Str.ofString "__getitem__") ht.typeIs PyProof.Rows.slot_tuple_getitem (wpAny_call_entry PyProof.Rows.slot_tuple_getitem ht.typeIs entry_tuple_getitem ?_ (args_tuple_getitem _ _)))
  show wpAny _ _ (Builtin.Tuple.tupleItemsOf (.ref t) >>= _) _ _ s
  refine wpAny_bind (tupleItemsOf_ ht ?_)
  refine wpAny_bind (wpAny_typeOf hTs ?_)
  rw [if_pos (by decide)]
  refine wpAny_bind (sliceApplied_rev hs ?_)
  have hno : ¬ ((((items.size : Int) - 1) == 0 && (-1 : Int) == 1 && items.size == items.size) = true) := by
    intro q
    rw [Bool.and_eq_true, Bool.and_eq_true] at q
    exact absurd q.1.2 (by decide)
  show wpAny _ _ (if (((items.size : Int) - 1) == 0 && (-1 : Int) == 1 && items.size == items.size) = true then _ else _) _ _ s
  rw [if_neg hno, pick_rev]
  first
    | exact wpAny_bind (m := Builtin.Tuple.tupleExact _) (wpAny_newObj_type (wpAny_pure ⟨_, rfl, wpAny_pure h⟩) htake)
    | exact wpAny_bind (m := Builtin.Tuple.tupleExact _) (wpAny_newObj_type (wpAny_bind (wpAny_pure (wpAny_pure ⟨_, rfl, wpAny_pure h⟩))) htake)
    | exact wpAny_bind (wpAny_bind (m := Builtin.Tuple.tupleExact _) (wpAny_newObj_type (wpAny_pure (wpAny_pure ⟨_, rfl, wpAny_pure h⟩)) htake))
    | exact wpAny_bind (wpAny_bind (m := Builtin.Tuple.tupleExact _) (wpAny_newObj_type (wpAny_pure ⟨_, rfl, wpAny_pure h⟩) htake))
end
def tRevZ (K : PySem.W.Frag) (te : TE) : TE := fun σ H Q => te σ H fun x H1 => ∃ a xs, x = .ref a ∧ ((SqT K H1 a xs ∧ layT H1 Q xs.reverse) ∨ (SqL K H1 a xs ∧ ∀ p, H1 p = none → Q (.ref p) (upd H1 p (.lst xs.reverse))))
theorem pe_revZ {e : Expr} {te : TE} {k : Nat} {p1 p2 p3 pos : Pos} (he : PE X e te) : PE X (.Subscript e (.Slice none none (some (.UnaryOp .USub (.Constant (.int 1) k p1) p2)) p3) pos) (tRevZ X.K te) := by
  refine ⟨fun pins s σ H Q I h => ?_⟩
  refine Subscript_ (thn (he.run pins s σ H _ I h) fun v s1 ⟨x, H1, I1, r1, a, xs, ex, hq⟩ => ?_)
  subst ex
  cases r1
  have hst : PO X (some (.UnaryOp .USub (.Constant (.int 1) k p1) p2)) (tPart (tUn (rU fun i => .int (-i)) (tC (.int 1)))) := po_some (pe_un un_neg pe_int)
  refine wpAny_Slice (thn (po_none.run pins s1 σ H1 (fun o H2 => o = none ∧ H2 = H1) I1 ⟨rfl, rfl⟩) fun vl s2 ⟨l, H2, I2, pl, el, e2⟩ => ?_)
  subst el e2
  refine thn (po_none.run pins s2 σ H2 (fun o H3 => o = none ∧ H3 = H2) I2 ⟨rfl, rfl⟩) fun vu s3 ⟨u, H3, I3, pu, eu, e3⟩ => ?_
  subst eu e3
  refine thn (hst.run pins s3 σ H3 (fun o H4 => o = some (-1) ∧ H4 = H3) I3 ⟨1, rfl, -1, rfl, rfl, rfl⟩) fun vs s4 ⟨o, H4, I4, ps, eo, e4⟩ => ?_
  subst eo e4
  have I5 : L2.Inv X pins σ H4 { s4 with heap := s4.heap.push { cls := .type "slice", data := .fields #[vl, vu, vs] } } := I4.kept (t' := s4.toks) fun b ob q => Heap.get?_push_of_some _ q
  show wpAny (model X.prog X.w) X.A (subscriptTail e (.Slice none none (some (.UnaryOp .USub (.Constant (.int 1) k p1) p2)) p3) (.ref a) (.ref s4.heap.objs.size)) (EP X pins σ Q) X.xe { s4 with heap := s4.heap.push { cls := .type "slice", data := .fields #[vl, vu, vs] } }
  rcases hq with ⟨hx, q⟩ | ⟨hx, q⟩
  · obtain ⟨its, r, ht, hz⟩ := I5.tuple hx
    have hlen := r.length
    cases pl
    cases pu
    cases ps with
    | int i tk =>
      refine tail_any (ops := [.ref a, .ref s4.heap.objs.size]) ht.typeIs PyProof.Rows.slot_tuple_getitem.lookup ?_ (by with_unfolding_all rfl)
      exact getItem_tuple_rev ht (Heap.IsSliceOf.new _ .none .none (.int (-1) tk)) (laid_tup (t' := s4.toks) I5 (fun _ _ e => e) (Nat.le_refl _) r.reverse (by rw [List.length_reverse]; exact hz) q) (by rw [List.size_toArray]; omega)
  · obtain ⟨its, r, ht, hz⟩ := I5.list hx
    have hlen := r.length
    refine tail_any (ops := [.ref a, .ref s4.heap.objs.size]) ht.isList.typeIs (PySem.slot_list_getitem.lookup) ?_ (by with_unfolding_all rfl)
    refine wpAny_getItem_list_slice ht.isList (Heap.IsSliceOf.new _ vl vu vs) pl pu ps (by decide) ?_ (by rw [List.size_toArray]; omega)
    rw [PySem.W.krv_pick]
    refine ⟨.ref _, _, I5.laid (t' := s4.toks) (o := .lst xs.reverse) (fun b ob q => Heap.get?_push_of_some _ q) (Nat.le_refl _) ?_, rfl, q _ (I5.hok.fresh (Nat.le_refl _))⟩
    exact ⟨by rw [List.length_reverse]; exact hz, _, 0, r.reverse, Heap.get?_push_size _ rfl⟩
end
end PD
namespace PySem.SeqAt
open AutoSeq1 (wpAny_loadPart')
open MeetsSeq MeetsSeq2 MeetsSeq3 SeqRoads2
def IsDct (h : Heap) (l : Addr) : Prop := ∃ o, h.get? l = some o ∧ o.cls = .type "dict" ∧ ∃ es n, o.data = .dict es n
theorem call_dict_eq_declines {prog : Program} {w : World} {A : Around} {E : Value → Shared → Prop} {s : Shared} {l : Addr} {y : Value} {T : String} {Q : Value → Shared → Prop} (hl : s.TypeIs (.ref l) "dict") (hy : s.TypeIs y T) (hT : isSubtype (.type T) (.type "dict") = pure false) {nm : Str → Str}
    {f : String} (hs : Slot "dict" f "dict.__eq__") (h : Q .notImplemented s) : wpAny (model prog w) A (call (.builtin "dict.__eq__") [.ref l, y]) Q E s := by
  refine wpAny_call_entry hs hl PySem.F.entry_dict_eq ?_ (PySem.F.args_dict_eq_2 _ _)
  show wpAny _ _ (Builtin.Dict.dictSlotArgs "__eq__" ⟨[.ref l, y], []⟩ >>= _) _ _ s
  refine wpAny_bind ?_
  unfold Builtin.Dict.dictSlotArgs
  refine wpAny_bind (wpAny_notOrdered_dict hl ?_)
  show wpAny _ _ (pure (Value.ref l, y)) _ _ s
  refine wpAny_pure ?_
  refine wpAny_bind (wpAny_isInstance (T := T) hy hT ?_)
  simp only [Bool.not_false, if_true]
  refine wpAny_bind (wpAny_rule ?_)
  exact wpAny_pure ⟨_, rfl, h⟩
theorem int_eq_declines_dct_bool (b : Bool) (l : Addr) (c : Value) (es : Array DictEntry) (n : Nat) (dd : Option Addr) (sl : Array (Option Value)) :
    Meets (Builtin.«int.__eq__» ⟨[.bool b, .ref l], []⟩) (fun _ R s => s.heap.get? l = some { cls := c, dict := dd, data := .dict es n, slots := sl } ∧ R (.ok (.ret .notImplemented)) s) :=
  .of_wp fun prog w A R s h => by obtain ⟨hp, g, d, tk, os⟩ := s; obtain ⟨hl, h⟩ := h; wp_walk using wpAny_loadPart' hl, wpAny_load hl; exact ⟨_, rfl, h⟩
theorem int_eq_declines_dct_int (b : Int) (u : Tok) (l : Addr) (c : Value) (es : Array DictEntry) (n : Nat) (dd : Option Addr) (sl : Array (Option Value)) :
    Meets (Builtin.«int.__eq__» ⟨[.int b u, .ref l], []⟩) (fun _ R s => s.heap.get? l = some { cls := c, dict := dd, data := .dict es n, slots := sl } ∧ R (.ok (.ret .notImplemented)) s) :=
  .of_wp fun prog w A R s h => by obtain ⟨hp, g, d, tk, os⟩ := s; obtain ⟨hl, h⟩ := h; wp_walk using wpAny_loadPart' hl, wpAny_load hl; exact ⟨_, rfl, h⟩
theorem str_eq_declines_dct_str (b : Str) (u : Tok) (l : Addr) (c : Value) (es : Array DictEntry) (n : Nat) (dd : Option Addr) (sl : Array (Option Value)) :
    Meets (Builtin.«str.__eq__» ⟨[.str b u, .ref l], []⟩) (fun _ R s => s.heap.get? l = some { cls := c, dict := dd, data := .dict es n, slots := sl } ∧ R (.ok (.ret .notImplemented)) s) :=
  .of_wp fun prog w A R s h => by obtain ⟨hp, g, d, tk, os⟩ := s; obtain ⟨hl, h⟩ := h; wp_walk using wpAny_loadPart' hl, wpAny_load hl; exact ⟨_, rfl, h⟩
theorem list_eq_declines_dct (l b : Addr) (items : Array Value) (es : Array DictEntry) (n n2 : Nat) (dd dd2 : Option Addr) (sl sl2 : Array (Option Value)) :
    Meets (Builtin.«list.__eq__» ⟨[.ref l, .ref b], []⟩) (fun _ R s => s.heap.get? l = some { cls := .type "list", dict := dd, data := .seq items n, slots := sl } ∧ s.heap.get? b = some { cls := .type "dict", dict := dd2, data := .dict es n2, slots := sl2 } ∧ R (.ok (.ret .notImplemented)) s) :=
  .of_wp fun prog w A R s h => by obtain ⟨hp, g, d, tk, os⟩ := s; obtain ⟨hl, hb, h⟩ := h; have f1 := F.sub_dict_list; wp_walk using wpAny_loadPart' hl, wpAny_loadPart' hb; exact ⟨_, rfl, h⟩
theorem tuple_eq_declines_dct (l b : Addr) (items : Array Value) (es : Array DictEntry) (n n2 : Nat) (dd dd2 : Option Addr) (sl sl2 : Array (Option Value)) :
    Meets (Builtin.«tuple.__eq__» ⟨[.ref l, .ref b], []⟩) (fun _ R s => s.heap.get? l = some { cls := .type "tuple", dict := dd, data := .seq items n, slots := sl } ∧ s.heap.get? b = some { cls := .type "dict", dict := dd2, data := .dict es n2, slots := sl2 } ∧ R (.ok (.ret .notImplemented)) s) :=
  .of_wp fun prog w A R s h => by obtain ⟨hp, g, d, tk, os⟩ := s; obtain ⟨hl, hb, h⟩ := h; have f1 := F.sub_dict_tuple; wp_walk using wpAny_loadPart' hl, wpAny_loadPart' hb; exact ⟨_, rfl, h⟩
theorem call_dict_ne_declines {prog : Program} {w : World} {A : Around} {E : Value → Shared → Prop} {s : Shared} {l : Addr} {y : Value} {T : String} {Q : Value → Shared → Prop} (hl : s.TypeIs (.ref l) "dict") (hy : s.TypeIs y T) (hT : isSubtype (.type T) (.type "dict") = pure false) {nm : Str → Str}
    {f : String} (hs : Slot "dict" f "dict.__ne__") (h : Q .notImplemented s) : wpAny (model prog w) A (call (.builtin "dict.__ne__") [.ref l, y]) Q E s := by
  refine wpAny_call_entry hs hl PySem.F.entry_dict_ne ?_ (PySem.F.args_dict_ne_2 _ _)
  show wpAny _ _ (Builtin.Dict.dictSlotArgs "__ne__" ⟨[.ref l, y], []⟩ >>= _) _ _ s
  refine wpAny_bind ?_
  unfold Builtin.Dict.dictSlotArgs
  refine wpAny_bind (wpAny_notOrdered_dict hl ?_)
  show wpAny _ _ (pure (Value.ref l, y)) _ _ s
  refine wpAny_pure ?_
  refine wpAny_bind (wpAny_isInstance (T := T) hy hT ?_)
  simp only [Bool.not_false, if_true]
  refine wpAny_bind (wpAny_rule ?_)
  exact wpAny_pure ⟨_, rfl, h⟩
theorem int_ne_declines_dct_bool (b : Bool) (l : Addr) (c : Value) (es : Array DictEntry) (n : Nat) (dd : Option Addr) (sl : Array (Option Value)) :
    Meets (Builtin.«int.__ne__» ⟨[.bool b, .ref l], []⟩) (fun _ R s => s.heap.get? l = some { cls := c, dict := dd, data := .dict es n, slots := sl } ∧ R (.ok (.ret .notImplemented)) s) :=
  .of_wp fun prog w A R s h => by obtain ⟨hp, g, d, tk, os⟩ := s; obtain ⟨hl, h⟩ := h; wp_walk using wpAny_loadPart' hl, wpAny_load hl; exact ⟨_, rfl, h⟩
theorem int_ne_declines_dct_int (b : Int) (u : Tok) (l : Addr) (c : Value) (es : Array DictEntry) (n : Nat) (dd : Option Addr) (sl : Array (Option Value)) :
    Meets (Builtin.«int.__ne__» ⟨[.int b u, .ref l], []⟩) (fun _ R s => s.heap.get? l = some { cls := c, dict := dd, data := .dict es n, slots := sl } ∧ R (.ok (.ret .notImplemented)) s) :=
  .of_wp fun prog w A R s h => by obtain ⟨hp, g, d, tk, os⟩ := s; obtain ⟨hl, h⟩ := h; wp_walk using wpAny_loadPart' hl, wpAny_load hl; exact ⟨_, rfl, h⟩
theorem str_ne_declines_dct_str (b : Str) (u : Tok) (l : Addr) (c : Value) (es : Array DictEntry) (n : Nat) (dd : Option Addr) (sl : Array (Option Value)) :
    Meets (Builtin.«str.__ne__» ⟨[.str b u, .ref l], []⟩) (fun _ R s => s.heap.get? l = some { cls := c, dict := dd, data := .dict es n, slots := sl } ∧ R (.ok (.ret .notImplemented)) s) :=
  .of_wp fun prog w A R s h => by obtain ⟨hp, g, d, tk, os⟩ := s; obtain ⟨hl, h⟩ := h; wp_walk using wpAny_loadPart' hl, wpAny_load hl; exact ⟨_, rfl, h⟩
theorem list_ne_declines_dct (l b : Addr) (items : Array Value) (es : Array DictEntry) (n n2 : Nat) (dd dd2 : Option Addr) (sl sl2 : Array (Option Value)) :
    Meets (Builtin.«list.__ne__» ⟨[.ref l, .ref b], []⟩) (fun _ R s => s.heap.get? l = some { cls := .type "list", dict := dd, data := .seq items n, slots := sl } ∧ s.heap.get? b = some { cls := .type "dict", dict := dd2, data := .dict es n2, slots := sl2 } ∧ R (.ok (.ret .notImplemented)) s) :=
  .of_wp fun prog w A R s h => by obtain ⟨hp, g, d, tk, os⟩ := s; obtain ⟨hl, hb, h⟩ := h; have f1 := F.sub_dict_list; wp_walk using wpAny_loadPart' hl, wpAny_loadPart' hb; exact ⟨_, rfl, h⟩
theorem tuple_ne_declines_dct (l b : Addr) (items : Array Value) (es : Array DictEntry) (n n2 : Nat) (dd dd2 : Option Addr) (sl sl2 : Array (Option Value)) :
    Meets (Builtin.«tuple.__ne__» ⟨[.ref l, .ref b], []⟩) (fun _ R s => s.heap.get? l = some { cls := .type "tuple", dict := dd, data := .seq items n, slots := sl } ∧ s.heap.get? b = some { cls := .type "dict", dict := dd2, data := .dict es n2, slots := sl2 } ∧ R (.ok (.ret .notImplemented)) s) :=
  .of_wp fun prog w A R s h => by obtain ⟨hp, g, d, tk, os⟩ := s; obtain ⟨hl, hb, h⟩ := h; have f1 := F.sub_dict_tuple; wp_walk using wpAny_loadPart' hl, wpAny_loadPart' hb; exact ⟨_, rfl, h⟩
section
variable {A : Around} {s : Shared}
theorem IsDct.ty {l : Addr} (h : IsDct s.heap l) : s.TypeIs (.ref l) "dict" := by
  obtain ⟨o, ho, hc, _⟩ := h
  exact ⟨o, ho, hc⟩
theorem IsDct.ne_list {l b : Addr} {items : Array Value} (h : IsDct s.heap l) (hb : s.heap.IsList b items) : l ≠ b := fun e => by
  subst e
  obtain ⟨o, ho, hc, _⟩ := h
  obtain ⟨o2, ho2, hc2, _⟩ := hb
  rw [ho] at ho2
  cases ho2
  rw [hc] at hc2
  exact absurd hc2 (by simp)
theorem IsDct.ne_tuple {l b : Addr} {items : Array Value} (h : IsDct s.heap l) (hb : s.heap.IsTuple b items) : l ≠ b := fun e => by
  subst e
  obtain ⟨o, ho, hc, _⟩ := h
  obtain ⟨o2, ho2, hc2, _⟩ := hb
  rw [ho] at ho2
  cases ho2
  rw [hc] at hc2
  exact absurd hc2 (by simp)
theorem RcAt.dct_none {l : Addr} (hl : IsDct s.heap l) (hu : A.units < cLine) : RcAt A s (.ref l) .none false := fun prog w E Q h => by
  have ty := hl.ty
  obtain ⟨⟨cls, dd, data, sl⟩, ho, hc, es, n, hd⟩ := id hl
  simp only at hc hd
  subst hc hd
  exact rc_eq_decline_or (k := false) ty rfl (by decide) F.sub_NoneType_dict F.slot_dict_eq F.slot_NoneType_eq_refl
    (fun _ hq => call_dict_eq_declines (nm := id) ty rfl F.sub_NoneType_dict F.slot_dict_eq hq)
    (fun _ hq => call_gives F.slot_NoneType_eq_refl rfl F.entry_NoneType_eq (F.args_NoneType_eq_2 _ _) (NoneType___eq___none_ref_0 l) hq)
    (fun _ hq => wpAny_of_eq (rfl : isSame (.ref l) .none = pure false) hq) (.inr hu) h
theorem RcAt.none_dct {l : Addr} (hl : IsDct s.heap l) (hu : A.units < cLine) : RcAt A s .none (.ref l) false := fun prog w E Q h => by
  have ty := hl.ty
  obtain ⟨⟨cls, dd, data, sl⟩, ho, hc, es, n, hd⟩ := id hl
  simp only at hc hd
  subst hc hd
  exact rc_eq_decline_or (k := false) rfl ty (by decide) F.sub_dict_NoneType F.slot_NoneType_eq F.slot_dict_eq_refl
    (fun _ hq => call_gives F.slot_NoneType_eq rfl F.entry_NoneType_eq (F.args_NoneType_eq_2 _ _) (NoneType___eq___none_ref_0 l) hq)
    (fun _ hq => call_dict_eq_declines (nm := id) ty rfl F.sub_NoneType_dict F.slot_dict_eq_refl hq)
    (fun _ hq => wpAny_of_eq (rfl : isSame .none (.ref l) = pure false) hq) (.inr hu) h
theorem RcAt.dct_bool {l : Addr} (b : Bool) (hl : IsDct s.heap l) (hu : A.units < cLine) : RcAt A s (.ref l) (.bool b) false := fun prog w E Q h => by
  have ty := hl.ty
  obtain ⟨⟨cls, dd, data, sl⟩, ho, hc, es, n, hd⟩ := id hl
  simp only at hc hd
  subst hc hd
  exact rc_eq_decline_or (k := false) ty rfl (by decide) F.sub_bool_dict F.slot_dict_eq F.slot_bool_eq_refl
    (fun _ hq => call_dict_eq_declines (nm := id) ty rfl F.sub_bool_dict F.slot_dict_eq hq)
    (fun _ hq => call_meets F.slot_bool_eq_refl rfl F.entry_int_eq (F.args_int_eq_2 _ _) (int_eq_declines_dct_bool b l (.type "dict") es n dd sl) ⟨ho, hq⟩)
    (fun _ hq => wpAny_of_eq (rfl : isSame (.ref l) (.bool b) = pure false) hq) (.inr hu) h
theorem RcAt.bool_dct {l : Addr} (b : Bool) (hl : IsDct s.heap l) (hu : A.units < cLine) : RcAt A s (.bool b) (.ref l) false := fun prog w E Q h => by
  have ty := hl.ty
  obtain ⟨⟨cls, dd, data, sl⟩, ho, hc, es, n, hd⟩ := id hl
  simp only at hc hd
  subst hc hd
  exact rc_eq_decline_or (k := false) rfl ty (by decide) F.sub_dict_bool F.slot_bool_eq F.slot_dict_eq_refl
    (fun _ hq => call_meets F.slot_bool_eq rfl F.entry_int_eq (F.args_int_eq_2 _ _) (int_eq_declines_dct_bool b l (.type "dict") es n dd sl) ⟨ho, hq⟩)
    (fun _ hq => call_dict_eq_declines (nm := id) ty rfl F.sub_bool_dict F.slot_dict_eq_refl hq)
    (fun _ hq => wpAny_of_eq (rfl : isSame (.bool b) (.ref l) = pure false) hq) (.inr hu) h
theorem RcAt.dct_int {l : Addr} (b : Int) (u : Tok) (hl : IsDct s.heap l) (hu : A.units < cLine) : RcAt A s (.ref l) (.int b u) false := fun prog w E Q h => by
  have ty := hl.ty
  obtain ⟨⟨cls, dd, data, sl⟩, ho, hc, es, n, hd⟩ := id hl
  simp only at hc hd
  subst hc hd
  exact rc_eq_decline_or (k := false) ty (typeIs_int s b u) (by decide) F.sub_int_dict F.slot_dict_eq F.slot_int_eq_refl
    (fun _ hq => call_dict_eq_declines (nm := id) ty (typeIs_int s b u) F.sub_int_dict F.slot_dict_eq hq)
    (fun _ hq => call_meets F.slot_int_eq_refl (typeIs_int s b u) F.entry_int_eq (F.args_int_eq_2 _ _) (int_eq_declines_dct_int b u l (.type "dict") es n dd sl) ⟨ho, hq⟩)
    (fun _ hq => wpAny_of_eq (rfl : isSame (.ref l) (.int b u) = pure false) hq) (.inr hu) h
theorem RcAt.int_dct {l : Addr} (b : Int) (u : Tok) (hl : IsDct s.heap l) (hu : A.units < cLine) : RcAt A s (.int b u) (.ref l) false := fun prog w E Q h => by
  have ty := hl.ty
  obtain ⟨⟨cls, dd, data, sl⟩, ho, hc, es, n, hd⟩ := id hl
  simp only at hc hd
  subst hc hd
  exact rc_eq_decline_or (k := false) (typeIs_int s b u) ty (by decide) F.sub_dict_int F.slot_int_eq F.slot_dict_eq_refl
    (fun _ hq => call_meets F.slot_int_eq (typeIs_int s b u) F.entry_int_eq (F.args_int_eq_2 _ _) (int_eq_declines_dct_int b u l (.type "dict") es n dd sl) ⟨ho, hq⟩)
    (fun _ hq => call_dict_eq_declines (nm := id) ty (typeIs_int s b u) F.sub_int_dict F.slot_dict_eq_refl hq)
    (fun _ hq => wpAny_of_eq (rfl : isSame (.int b u) (.ref l) = pure false) hq) (.inr hu) h
theorem RcAt.dct_str {l : Addr} (b : Str) (u : Tok) (hl : IsDct s.heap l) (hu : A.units < cLine) : RcAt A s (.ref l) (.str b u) false := fun prog w E Q h => by
  have ty := hl.ty
  obtain ⟨⟨cls, dd, data, sl⟩, ho, hc, es, n, hd⟩ := id hl
  simp only at hc hd
  subst hc hd
  exact rc_eq_decline_or (k := false) ty (typeIs_str s b u) (by decide) F.sub_str_dict F.slot_dict_eq F.slot_str_eq_refl
    (fun _ hq => call_dict_eq_declines (nm := id) ty (typeIs_str s b u) F.sub_str_dict F.slot_dict_eq hq)
    (fun _ hq => call_meets F.slot_str_eq_refl (typeIs_str s b u) F.entry_str_eq (F.args_str_eq_2 _ _) (str_eq_declines_dct_str b u l (.type "dict") es n dd sl) ⟨ho, hq⟩)
    (fun _ hq => wpAny_of_eq (rfl : isSame (.ref l) (.str b u) = pure false) hq) (.inr hu) h
theorem RcAt.str_dct {l : Addr} (b : Str) (u : Tok) (hl : IsDct s.heap l) (hu : A.units < cLine) : RcAt A s (.str b u) (.ref l) false := fun prog w E Q h => by
  have ty := hl.ty
  obtain ⟨⟨cls, dd, data, sl⟩, ho, hc, es, n, hd⟩ := id hl
  simp only at hc hd
  subst hc hd
  exact rc_eq_decline_or (k := false) (typeIs_str s b u) ty (by decide) F.sub_dict_str F.slot_str_eq F.slot_dict_eq_refl
    (fun _ hq => call_meets F.slot_str_eq (typeIs_str s b u) F.entry_str_eq (F.args_str_eq_2 _ _) (str_eq_declines_dct_str b u l (.type "dict") es n dd sl) ⟨ho, hq⟩)
    (fun _ hq => call_dict_eq_declines (nm := id) ty (typeIs_str s b u) F.sub_str_dict F.slot_dict_eq_refl hq)
    (fun _ hq => wpAny_of_eq (rfl : isSame (.str b u) (.ref l) = pure false) hq) (.inr hu) h
theorem RcAt.dct_list {l b : Addr} {items : Array Value} (hl : IsDct s.heap l) (hb : s.heap.IsList b items) (hu : A.units < cLine) : RcAt A s (.ref l) (.ref b) false := fun prog w E Q h => by
  have ty := hl.ty
  have hne : l ≠ b := hl.ne_list hb
  obtain ⟨⟨cls, dd, data, sl⟩, ho, hc, es, n, hd⟩ := id hl
  obtain ⟨⟨cls2, dd2, data2, sl2⟩, ho2, hc2, n2, hd2⟩ := id hb
  simp only at hc hd hc2 hd2
  subst hc hd hc2 hd2
  exact (rc_eq_decline_or (k := false) ty ⟨_, ho2, rfl⟩ (by decide) F.sub_list_dict F.slot_dict_eq F.slot_list_eq_refl
    (fun _ hq => call_dict_eq_declines (nm := id) (T := "list") ty ⟨_, ho2, rfl⟩ F.sub_list_dict F.slot_dict_eq hq)
    (fun _ hq => call_meets F.slot_list_eq_refl ⟨_, ho2, rfl⟩ F.entry_list_eq (F.args_list_eq_2 _ _) (list_eq_declines_dct b l items es n2 n dd2 dd sl2 sl) ⟨ho2, ho, hq⟩)
    (fun _ hq => wpAny_isSame_ref_other hne ho ho2 (by simp) hq) (.inr hu) h)
theorem RcAt.list_dct {l b : Addr} {items : Array Value} (hb : s.heap.IsList b items) (hl : IsDct s.heap l) (hu : A.units < cLine) : RcAt A s (.ref b) (.ref l) false := fun prog w E Q h => by
  have ty := hl.ty
  have hne : l ≠ b := hl.ne_list hb
  obtain ⟨⟨cls, dd, data, sl⟩, ho, hc, es, n, hd⟩ := id hl
  obtain ⟨⟨cls2, dd2, data2, sl2⟩, ho2, hc2, n2, hd2⟩ := id hb
  simp only at hc hd hc2 hd2
  subst hc hd hc2 hd2
  exact (rc_eq_decline_or (k := false) ⟨_, ho2, rfl⟩ ty (by decide) F.sub_dict_list F.slot_list_eq F.slot_dict_eq_refl
    (fun _ hq => call_meets F.slot_list_eq ⟨_, ho2, rfl⟩ F.entry_list_eq (F.args_list_eq_2 _ _) (list_eq_declines_dct b l items es n2 n dd2 dd sl2 sl) ⟨ho2, ho, hq⟩)
    (fun _ hq => call_dict_eq_declines (nm := id) (T := "list") ty ⟨_, ho2, rfl⟩ F.sub_list_dict F.slot_dict_eq_refl hq)
    (fun _ hq => wpAny_isSame_ref_other' (Ne.symm hne) ho2 ho (by simp) hq) (.inr hu) h)
theorem RcAt.dct_tuple {l b : Addr} {items : Array Value} (hl : IsDct s.heap l) (hb : s.heap.IsTuple b items) (hu : A.units < cLine) : RcAt A s (.ref l) (.ref b) false := fun prog w E Q h => by
  have ty := hl.ty
  have hne : l ≠ b := hl.ne_tuple hb
  obtain ⟨⟨cls, dd, data, sl⟩, ho, hc, es, n, hd⟩ := id hl
  obtain ⟨⟨cls2, dd2, data2, sl2⟩, ho2, hc2, n2, hd2⟩ := id hb
  simp only at hc hd hc2 hd2
  subst hc hd hc2 hd2
  exact (rc_eq_decline_or (k := false) ty ⟨_, ho2, rfl⟩ (by decide) F.sub_tuple_dict F.slot_dict_eq F.slot_tuple_eq_refl
    (fun _ hq => call_dict_eq_declines (nm := id) (T := "tuple") ty ⟨_, ho2, rfl⟩ F.sub_tuple_dict F.slot_dict_eq hq)
    (fun _ hq => call_meets F.slot_tuple_eq_refl ⟨_, ho2, rfl⟩ F.entry_tuple_eq (F.args_tuple_eq_2 _ _) (tuple_eq_declines_dct b l items es n2 n dd2 dd sl2 sl) ⟨ho2, ho, hq⟩)
    (fun _ hq => wpAny_isSame_ref_other hne ho ho2 (by simp) hq) (.inr hu) h)
theorem RcAt.tuple_dct {l b : Addr} {items : Array Value} (hb : s.heap.IsTuple b items) (hl : IsDct s.heap l) (hu : A.units < cLine) : RcAt A s (.ref b) (.ref l) false := fun prog w E Q h => by
  have ty := hl.ty
  have hne : l ≠ b := hl.ne_tuple hb
  obtain ⟨⟨cls, dd, data, sl⟩, ho, hc, es, n, hd⟩ := id hl
  obtain ⟨⟨cls2, dd2, data2, sl2⟩, ho2, hc2, n2, hd2⟩ := id hb
  simp only at hc hd hc2 hd2
  subst hc hd hc2 hd2
  exact (rc_eq_decline_or (k := false) ⟨_, ho2, rfl⟩ ty (by decide) F.sub_dict_tuple F.slot_tuple_eq F.slot_dict_eq_refl
    (fun _ hq => call_meets F.slot_tuple_eq ⟨_, ho2, rfl⟩ F.entry_tuple_eq (F.args_tuple_eq_2 _ _) (tuple_eq_declines_dct b l items es n2 n dd2 dd sl2 sl) ⟨ho2, ho, hq⟩)
    (fun _ hq => call_dict_eq_declines (nm := id) (T := "tuple") ty ⟨_, ho2, rfl⟩ F.sub_tuple_dict F.slot_dict_eq_refl hq)
    (fun _ hq => wpAny_isSame_ref_other' (Ne.symm hne) ho2 ho (by simp) hq) (.inr hu) h)
theorem RcNeAt.dct_none {l : Addr} (hl : IsDct s.heap l) (hu : A.units < cLine) : RcNeAt A s (.ref l) .none true := fun prog w E Q h => by
  have ty := hl.ty
  obtain ⟨⟨cls, dd, data, sl⟩, ho, hc, es, n, hd⟩ := id hl
  simp only at hc hd
  subst hc hd
  exact rc_ne_decline_or (k := false) ty rfl (by decide) F.sub_NoneType_dict F.slot_dict_ne F.slot_NoneType_ne_refl
    (fun _ hq => call_dict_ne_declines (nm := id) ty rfl F.sub_NoneType_dict F.slot_dict_ne hq)
    (fun _ hq => call_gives F.slot_NoneType_ne_refl rfl F.entry_NoneType_ne (F.args_NoneType_ne_2 _ _) (NoneType___ne___none_ref_0 l) hq)
    (fun _ hq => wpAny_of_eq (rfl : isSame (.ref l) .none = pure false) hq) (.inr hu) h
theorem RcNeAt.none_dct {l : Addr} (hl : IsDct s.heap l) (hu : A.units < cLine) : RcNeAt A s .none (.ref l) true := fun prog w E Q h => by
  have ty := hl.ty
  obtain ⟨⟨cls, dd, data, sl⟩, ho, hc, es, n, hd⟩ := id hl
  simp only at hc hd
  subst hc hd
  exact rc_ne_decline_or (k := false) rfl ty (by decide) F.sub_dict_NoneType F.slot_NoneType_ne F.slot_dict_ne_refl
    (fun _ hq => call_gives F.slot_NoneType_ne rfl F.entry_NoneType_ne (F.args_NoneType_ne_2 _ _) (NoneType___ne___none_ref_0 l) hq)
    (fun _ hq => call_dict_ne_declines (nm := id) ty rfl F.sub_NoneType_dict F.slot_dict_ne_refl hq)
    (fun _ hq => wpAny_of_eq (rfl : isSame .none (.ref l) = pure false) hq) (.inr hu) h
theorem RcNeAt.dct_bool {l : Addr} (b : Bool) (hl : IsDct s.heap l) (hu : A.units < cLine) : RcNeAt A s (.ref l) (.bool b) true := fun prog w E Q h => by
  have ty := hl.ty
  obtain ⟨⟨cls, dd, data, sl⟩, ho, hc, es, n, hd⟩ := id hl
  simp only at hc hd
  subst hc hd
  exact rc_ne_decline_or (k := false) ty rfl (by decide) F.sub_bool_dict F.slot_dict_ne F.slot_bool_ne_refl
    (fun _ hq => call_dict_ne_declines (nm := id) ty rfl F.sub_bool_dict F.slot_dict_ne hq)
    (fun _ hq => call_meets F.slot_bool_ne_refl rfl F.entry_int_ne (F.args_int_ne_2 _ _) (int_ne_declines_dct_bool b l (.type "dict") es n dd sl) ⟨ho, hq⟩)
    (fun _ hq => wpAny_of_eq (rfl : isSame (.ref l) (.bool b) = pure false) hq) (.inr hu) h
theorem RcNeAt.bool_dct {l : Addr} (b : Bool) (hl : IsDct s.heap l) (hu : A.units < cLine) : RcNeAt A s (.bool b) (.ref l) true := fun prog w E Q h => by
  have ty := hl.ty
  obtain ⟨⟨cls, dd, data, sl⟩, ho, hc, es, n, hd⟩ := id hl
  simp only at hc hd
  subst hc hd
  exact rc_ne_decline_or (k := false) rfl ty (by decide) F.sub_dict_bool F.slot_bool_ne F.slot_dict_ne_refl
    (fun _ hq => call_meets F.slot_bool_ne rfl F.entry_int_ne (F.args_int_ne_2 _ _) (int_ne_declines_dct_bool b l (.type "dict") es n dd sl) ⟨ho, hq⟩)
    (fun _ hq => call_dict_ne_declines (nm := id) ty rfl F.sub_bool_dict F.slot_dict_ne_refl hq)
    (fun _ hq => wpAny_of_eq (rfl : isSame (.bool b) (.ref l) = pure false) hq) (.inr hu) h
theorem RcNeAt.dct_int {l : Addr} (b : Int) (u : Tok) (hl : IsDct s.heap l) (hu : A.units < cLine) : RcNeAt A s (.ref l) (.int b u) true := fun prog w E Q h => by
  have ty := hl.ty
  obtain ⟨⟨cls, dd, data, sl⟩, ho, hc, es, n, hd⟩ := id hl
  simp only at hc hd
  subst hc hd
  exact rc_ne_decline_or (k := false) ty (typeIs_int s b u) (by decide) F.sub_int_dict F.slot_dict_ne F.slot_int_ne_refl
    (fun _ hq => call_dict_ne_declines (nm := id) ty (typeIs_int s b u) F.sub_int_dict F.slot_dict_ne hq)
    (fun _ hq => call_meets F.slot_int_ne_refl (typeIs_int s b u) F.entry_int_ne (F.args_int_ne_2 _ _) (int_ne_declines_dct_int b u l (.type "dict") es n dd sl) ⟨ho, hq⟩)
    (fun _ hq => wpAny_of_eq (rfl : isSame (.ref l) (.int b u) = pure false) hq) (.inr hu) h
theorem RcNeAt.int_dct {l : Addr} (b : Int) (u : Tok) (hl : IsDct s.heap l) (hu : A.units < cLine) : RcNeAt A s (.int b u) (.ref l) true := fun prog w E Q h => by
  have ty := hl.ty
  obtain ⟨⟨cls, dd, data, sl⟩, ho, hc, es, n, hd⟩ := id hl
  simp only at hc hd
  subst hc hd
  exact rc_ne_decline_or (k := false) (typeIs_int s b u) ty (by decide) F.sub_dict_int F.slot_int_ne F.slot_dict_ne_refl
    (fun _ hq => call_meets F.slot_int_ne (typeIs_int s b u) F.entry_int_ne (F.args_int_ne_2 _ _) (int_ne_declines_dct_int b u l (.type "dict") es n dd sl) ⟨ho, hq⟩)
    (fun _ hq => call_dict_ne_declines (nm := id) ty (typeIs_int s b u) F.sub_int_dict F.slot_dict_ne_refl hq)
    (fun _ hq => wpAny_of_eq (rfl : isSame (.int b u) (.ref l) = pure false) hq) (.inr hu) h
theorem RcNeAt.dct_str {l : Addr} (b : Str) (u : Tok) (hl : IsDct s.heap l) (hu : A.units < cLine) : RcNeAt A s (.ref l) (.str b u) true := fun prog w E Q h => by
  have ty := hl.ty
  obtain ⟨⟨cls, dd, data, sl⟩, ho, hc, es, n, hd⟩ := id hl
  simp only at hc hd
  subst hc hd
  exact rc_ne_decline_or (k := false) ty (typeIs_str s b u) (by decide) F.sub_str_dict F.slot_dict_ne F.slot_str_ne_refl
    (fun _ hq => call_dict_ne_declines (nm := id) ty (typeIs_str s b u) F.sub_str_dict F.slot_dict_ne hq)
    (fun _ hq => call_meets F.slot_str_ne_refl (typeIs_str s b u) F.entry_str_ne (F.args_str_ne_2 _ _) (str_ne_declines_dct_str b u l (.type "dict") es n dd sl) ⟨ho, hq⟩)
    (fun _ hq => wpAny_of_eq (rfl : isSame (.ref l) (.str b u) = pure false) hq) (.inr hu) h
theorem RcNeAt.str_dct {l : Addr} (b : Str) (u : Tok) (hl : IsDct s.heap l) (hu : A.units < cLine) : RcNeAt A s (.str b u) (.ref l) true := fun prog w E Q h => by
  have ty := hl.ty
  obtain ⟨⟨cls, dd, data, sl⟩, ho, hc, es, n, hd⟩ := id hl
  simp only at hc hd
  subst hc hd
  exact rc_ne_decline_or (k := false) (typeIs_str s b u) ty (by decide) F.sub_dict_str F.slot_str_ne F.slot_dict_ne_refl
    (fun _ hq => call_meets F.slot_str_ne (typeIs_str s b u) F.entry_str_ne (F.args_str_ne_2 _ _) (str_ne_declines_dct_str b u l (.type "dict") es n dd sl) ⟨ho, hq⟩)
    (fun _ hq => call_dict_ne_declines (nm := id) ty (typeIs_str s b u) F.sub_str_dict F.slot_dict_ne_refl hq)
    (fun _ hq => wpAny_of_eq (rfl : isSame (.str b u) (.ref l) = pure false) hq) (.inr hu) h
theorem RcNeAt.dct_list {l b : Addr} {items : Array Value} (hl : IsDct s.heap l) (hb : s.heap.IsList b items) (hu : A.units < cLine) : RcNeAt A s (.ref l) (.ref b) true := fun prog w E Q h => by
  have ty := hl.ty
  have hne : l ≠ b := hl.ne_list hb
  obtain ⟨⟨cls, dd, data, sl⟩, ho, hc, es, n, hd⟩ := id hl
  obtain ⟨⟨cls2, dd2, data2, sl2⟩, ho2, hc2, n2, hd2⟩ := id hb
  simp only at hc hd hc2 hd2
  subst hc hd hc2 hd2
  exact (rc_ne_decline_or (k := false) ty ⟨_, ho2, rfl⟩ (by decide) F.sub_list_dict F.slot_dict_ne F.slot_list_ne_refl
    (fun _ hq => call_dict_ne_declines (nm := id) (T := "list") ty ⟨_, ho2, rfl⟩ F.sub_list_dict F.slot_dict_ne hq)
    (fun _ hq => call_meets F.slot_list_ne_refl ⟨_, ho2, rfl⟩ F.entry_list_ne (F.args_list_ne_2 _ _) (list_ne_declines_dct b l items es n2 n dd2 dd sl2 sl) ⟨ho2, ho, hq⟩)
    (fun _ hq => wpAny_isSame_ref_other hne ho ho2 (by simp) hq) (.inr hu) h)
theorem RcNeAt.list_dct {l b : Addr} {items : Array Value} (hb : s.heap.IsList b items) (hl : IsDct s.heap l) (hu : A.units < cLine) : RcNeAt A s (.ref b) (.ref l) true := fun prog w E Q h => by
  have ty := hl.ty
  have hne : l ≠ b := hl.ne_list hb
  obtain ⟨⟨cls, dd, data, sl⟩, ho, hc, es, n, hd⟩ := id hl
  obtain ⟨⟨cls2, dd2, data2, sl2⟩, ho2, hc2, n2, hd2⟩ := id hb
  simp only at hc hd hc2 hd2
  subst hc hd hc2 hd2
  exact (rc_ne_decline_or (k := false) ⟨_, ho2, rfl⟩ ty (by decide) F.sub_dict_list F.slot_list_ne F.slot_dict_ne_refl
    (fun _ hq => call_meets F.slot_list_ne ⟨_, ho2, rfl⟩ F.entry_list_ne (F.args_list_ne_2 _ _) (list_ne_declines_dct b l items es n2 n dd2 dd sl2 sl) ⟨ho2, ho, hq⟩)
    (fun _ hq => call_dict_ne_declines (nm := id) (T := "list") ty ⟨_, ho2, rfl⟩ F.sub_list_dict F.slot_dict_ne_refl hq)
    (fun _ hq => wpAny_isSame_ref_other' (Ne.symm hne) ho2 ho (by simp) hq) (.inr hu) h)
theorem RcNeAt.dct_tuple {l b : Addr} {items : Array Value} (hl : IsDct s.heap l) (hb : s.heap.IsTuple b items) (hu : A.units < cLine) : RcNeAt A s (.ref l) (.ref b) true := fun prog w E Q h => by
  have ty := hl.ty
  have hne : l ≠ b := hl.ne_tuple hb
  obtain ⟨⟨cls, dd, data, sl⟩, ho, hc, es, n, hd⟩ := id hl
  obtain ⟨⟨cls2, dd2, data2, sl2⟩, ho2, hc2, n2, hd2⟩ := id hb
  simp only at hc hd hc2 hd2
  subst hc hd hc2 hd2
  exact (rc_ne_decline_or (k := false) ty ⟨_, ho2, rfl⟩ (by decide) F.sub_tuple_dict F.slot_dict_ne F.slot_tuple_ne_refl
    (fun _ hq => call_dict_ne_declines (nm := id) (T := "tuple") ty ⟨_, ho2, rfl⟩ F.sub_tuple_dict F.slot_dict_ne hq)
    (fun _ hq => call_meets F.slot_tuple_ne_refl ⟨_, ho2, rfl⟩ F.entry_tuple_ne (F.args_tuple_ne_2 _ _) (tuple_ne_declines_dct b l items es n2 n dd2 dd sl2 sl) ⟨ho2, ho, hq⟩)
    (fun _ hq => wpAny_isSame_ref_other hne ho ho2 (by simp) hq) (.inr hu) h)
theorem RcNeAt.tuple_dct {l b : Addr} {items : Array Value} (hb : s.heap.IsTuple b items) (hl : IsDct s.heap l) (hu : A.units < cLine) : RcNeAt A s (.ref b) (.ref l) true := fun prog w E Q h => by
  have ty := hl.ty
  have hne : l ≠ b := hl.ne_tuple hb
  obtain ⟨⟨cls, dd, data, sl⟩, ho, hc, es, n, hd⟩ := id hl
  obtain ⟨⟨cls2, dd2, data2, sl2⟩, ho2, hc2, n2, hd2⟩ := id hb
  simp only at hc hd hc2 hd2
  subst hc hd hc2 hd2
  exact (rc_ne_decline_or (k := false) ⟨_, ho2, rfl⟩ ty (by decide) F.sub_dict_tuple F.slot_tuple_ne F.slot_dict_ne_refl
    (fun _ hq => call_meets F.slot_tuple_ne ⟨_, ho2, rfl⟩ F.entry_tuple_ne (F.args_tuple_ne_2 _ _) (tuple_ne_declines_dct b l items es n2 n dd2 dd sl2 sl) ⟨ho2, ho, hq⟩)
    (fun _ hq => call_dict_ne_declines (nm := id) (T := "tuple") ty ⟨_, ho2, rfl⟩ F.sub_tuple_dict F.slot_dict_ne_refl hq)
    (fun _ hq => wpAny_isSame_ref_other' (Ne.symm hne) ho2 ho (by simp) hq) (.inr hu) h)
theorem EqAt.dct_none {l : Addr} (hl : IsDct s.heap l) (hu : A.units < cLine) : EqAt A s (.ref l) .none false := fun prog w E Q h => by
  unfold eqBool
  refine wpAny_holding ?_
  refine wpAny_ite_split (fun hab => absurd (eq_of_beq hab) nofun) (fun _ => ?_)
  exact wpAny_bind (RcAt.dct_none hl hu prog w E _ (wpAny_truthy_bool h))
theorem EqAt.none_dct {l : Addr} (hl : IsDct s.heap l) (hu : A.units < cLine) : EqAt A s .none (.ref l) false := fun prog w E Q h => by
  unfold eqBool
  refine wpAny_holding ?_
  refine wpAny_ite_split (fun hab => absurd (eq_of_beq hab) nofun) (fun _ => ?_)
  exact wpAny_bind (RcAt.none_dct hl hu prog w E _ (wpAny_truthy_bool h))
theorem EqAt.dct_bool {l : Addr} (b : Bool) (hl : IsDct s.heap l) (hu : A.units < cLine) : EqAt A s (.ref l) (.bool b) false := fun prog w E Q h => by
  unfold eqBool
  refine wpAny_holding ?_
  refine wpAny_ite_split (fun hab => absurd (eq_of_beq hab) nofun) (fun _ => ?_)
  exact wpAny_bind (RcAt.dct_bool b hl hu prog w E _ (wpAny_truthy_bool h))
theorem EqAt.bool_dct {l : Addr} (b : Bool) (hl : IsDct s.heap l) (hu : A.units < cLine) : EqAt A s (.bool b) (.ref l) false := fun prog w E Q h => by
  unfold eqBool
  refine wpAny_holding ?_
  refine wpAny_ite_split (fun hab => absurd (eq_of_beq hab) nofun) (fun _ => ?_)
  exact wpAny_bind (RcAt.bool_dct b hl hu prog w E _ (wpAny_truthy_bool h))
theorem EqAt.dct_int {l : Addr} (b : Int) (u : Tok) (hl : IsDct s.heap l) (hu : A.units < cLine) : EqAt A s (.ref l) (.int b u) false := fun prog w E Q h => by
  unfold eqBool
  refine wpAny_holding ?_
  refine wpAny_ite_split (fun hab => absurd (eq_of_beq hab) nofun) (fun _ => ?_)
  exact wpAny_bind (RcAt.dct_int b u hl hu prog w E _ (wpAny_truthy_bool h))
theorem EqAt.int_dct {l : Addr} (b : Int) (u : Tok) (hl : IsDct s.heap l) (hu : A.units < cLine) : EqAt A s (.int b u) (.ref l) false := fun prog w E Q h => by
  unfold eqBool
  refine wpAny_holding ?_
  refine wpAny_ite_split (fun hab => absurd (eq_of_beq hab) nofun) (fun _ => ?_)
  exact wpAny_bind (RcAt.int_dct b u hl hu prog w E _ (wpAny_truthy_bool h))
theorem EqAt.dct_str {l : Addr} (b : Str) (u : Tok) (hl : IsDct s.heap l) (hu : A.units < cLine) : EqAt A s (.ref l) (.str b u) false := fun prog w E Q h => by
  unfold eqBool
  refine wpAny_holding ?_
  refine wpAny_ite_split (fun hab => absurd (eq_of_beq hab) nofun) (fun _ => ?_)
  exact wpAny_bind (RcAt.dct_str b u hl hu prog w E _ (wpAny_truthy_bool h))
theorem EqAt.str_dct {l : Addr} (b : Str) (u : Tok) (hl : IsDct s.heap l) (hu : A.units < cLine) : EqAt A s (.str b u) (.ref l) false := fun prog w E Q h => by
  unfold eqBool
  refine wpAny_holding ?_
  refine wpAny_ite_split (fun hab => absurd (eq_of_beq hab) nofun) (fun _ => ?_)
  exact wpAny_bind (RcAt.str_dct b u hl hu prog w E _ (wpAny_truthy_bool h))
theorem EqAt.dct_list {l b : Addr} {items : Array Value} (hl : IsDct s.heap l) (hb : s.heap.IsList b items) (hu : A.units < cLine) : EqAt A s (.ref l) (.ref b) false := .of_refs (hl.ne_list hb) (.dct_list hl hb hu)
theorem EqAt.list_dct {l b : Addr} {items : Array Value} (hb : s.heap.IsList b items) (hl : IsDct s.heap l) (hu : A.units < cLine) : EqAt A s (.ref b) (.ref l) false := .of_refs (hl.ne_list hb).symm (.list_dct hb hl hu)
theorem EqAt.dct_tuple {l b : Addr} {items : Array Value} (hl : IsDct s.heap l) (hb : s.heap.IsTuple b items) (hu : A.units < cLine) : EqAt A s (.ref l) (.ref b) false := .of_refs (hl.ne_tuple hb) (.dct_tuple hl hb hu)
theorem EqAt.tuple_dct {l b : Addr} {items : Array Value} (hb : s.heap.IsTuple b items) (hl : IsDct s.heap l) (hu : A.units < cLine) : EqAt A s (.ref b) (.ref l) false := .of_refs (hl.ne_tuple hb).symm (.tuple_dct hb hl hu)
end
mutual
inductive RdM (h : Heap) : Value → PyData → Prop
  | none : RdM h .none .none
  | bool (b) : RdM h (.bool b) (.bool b)
  | int (i t) : RdM h (.int i t) (.int i)
  | str (x t) : RdM h (.str x t) (.str x)
  | list {a : Addr} {vs : Array Value} {xs : List PyData} : h.IsList a vs → RdMs h vs.toList xs → RdM h (.ref a) (.list xs)
  | tuple {a : Addr} {vs : Array Value} {xs : List PyData} : h.IsTuple a vs → RdMs h vs.toList xs → RdM h (.ref a) (.tuple xs)
  | dict {a : Addr} : IsDct h a → RdM h (.ref a) (.dict [])
inductive RdMs (h : Heap) : List Value → List PyData → Prop
  | nil : RdMs h [] []
  | cons {v vs d ds} : RdM h v d → RdMs h vs ds → RdMs h (v :: vs) (d :: ds)
end
theorem RdMs.length {h : Heap} : ∀ (xs : List PyData) (vs : List Value), RdMs h vs xs → vs.length = xs.length
  | [], _, r => by cases r; rfl
  | _ :: xs, _, r => by
    cases r with
    | cons _ t => rw [List.length_cons, List.length_cons, RdMs.length xs _ t]
theorem list_det {h : Heap} {a : Addr} {vs ws : Array Value} (h1 : h.IsList a vs) (h2 : h.IsList a ws) : vs = ws := by
  obtain ⟨o, e1, _, n, d1⟩ := h1
  obtain ⟨o2, e2, _, n2, d2⟩ := h2
  rw [e1] at e2
  cases e2
  rw [d1] at d2
  cases d2
  rfl
theorem tuple_det {h : Heap} {a : Addr} {vs ws : Array Value} (h1 : h.IsTuple a vs) (h2 : h.IsTuple a ws) : vs = ws := by
  obtain ⟨o, e1, _, n, d1⟩ := h1
  obtain ⟨o2, e2, _, n2, d2⟩ := h2
  rw [e1] at e2
  cases e2
  rw [d1] at d2
  cases d2
  rfl
theorem cls_det {h : Heap} {a : Addr} {o o2 : Obj} {c c2 : String} (e1 : h.get? a = some o) (e2 : h.get? a = some o2) (h1 : o.cls = .type c) (h2 : o2.cls = .type c2) : c = c2 := by
  rw [e1] at e2
  cases e2
  rw [h1] at h2
  cases h2
  rfl
mutual
theorem RdM.det {h : Heap} : ∀ (d d' : PyData) (v : Value), RdM h v d → RdM h v d' → d = d'
  | .none, _, _, r, r' => by cases r; cases r'; rfl
  | .bool _, _, _, r, r' => by cases r; cases r'; rfl
  | .int _, _, _, r, r' => by cases r; cases r'; rfl
  | .str _, _, _, r, r' => by cases r; cases r'; rfl
  | .list xs, _, _, r, r' => by
    cases r with
    | list h1 h2 =>
      cases r' with
      | list k1 k2 => cases list_det h1 k1; rw [RdMs.det xs _ _ h2 k2]
      | tuple k1 k2 => obtain ⟨_, e1, c1, _⟩ := h1; obtain ⟨_, e2, c2, _⟩ := k1; exact absurd (cls_det e1 e2 c1 c2) (by decide)
      | dict k1 => obtain ⟨_, e1, c1, _⟩ := h1; obtain ⟨_, e2, c2, _⟩ := k1; exact absurd (cls_det e1 e2 c1 c2) (by decide)
  | .tuple xs, _, _, r, r' => by
    cases r with
    | tuple h1 h2 =>
      cases r' with
      | tuple k1 k2 => cases tuple_det h1 k1; rw [RdMs.det xs _ _ h2 k2]
      | list k1 k2 => obtain ⟨_, e1, c1, _⟩ := h1; obtain ⟨_, e2, c2, _⟩ := k1; exact absurd (cls_det e1 e2 c1 c2) (by decide)
      | dict k1 => obtain ⟨_, e1, c1, _⟩ := h1; obtain ⟨_, e2, c2, _⟩ := k1; exact absurd (cls_det e1 e2 c1 c2) (by decide)
  | .dict _, _, _, r, r' => by
    cases r with
    | dict h1 =>
      cases r' with
      | list k1 k2 => obtain ⟨_, e1, c1, _⟩ := h1; obtain ⟨_, e2, c2, _⟩ := k1; exact absurd (cls_det e1 e2 c1 c2) (by decide)
      | tuple k1 k2 => obtain ⟨_, e1, c1, _⟩ := h1; obtain ⟨_, e2, c2, _⟩ := k1; exact absurd (cls_det e1 e2 c1 c2) (by decide)
      | dict k1 => rfl
theorem RdMs.det {h : Heap} : ∀ (xs ys : List PyData) (vs : List Value), RdMs h vs xs → RdMs h vs ys → xs = ys
  | [], _, _, r, r' => by cases r; cases r'; rfl
  | x :: xs, _, _, r, r' => by
    cases r with
    | cons h1 h2 =>
      cases r' with
      | cons k1 k2 => rw [RdM.det x _ _ h1 k1, RdMs.det xs _ _ h2 k2]
end
mutual
def mixOk : PyData → PyData → Bool
  | .dict _, .dict _ => false
  | .list xs, .list ys => mixAll xs ys
  | .tuple xs, .tuple ys => mixAll xs ys
  | _, _ => true
def mixAll : List PyData → List PyData → Bool
  | x :: xs, y :: ys => mixOk x y && mixAll xs ys
  | _, _ => true
end
mutual
theorem mix_refl : ∀ d : PyData, mixOk d d = true → PyData.eqv d d = true
  | .none, _ => rfl
  | .bool b, _ => by simp [PyData.eqv]
  | .int i, _ => by simp [PyData.eqv]
  | .str x, _ => by simp [PyData.eqv]
  | .list xs, h => by rw [PyData.eqv]; exact mixAll_refl xs (by simpa [mixOk] using h)
  | .tuple xs, h => by rw [PyData.eqv]; exact mixAll_refl xs (by simpa [mixOk] using h)
  | .dict _, h => by simp [mixOk] at h
theorem mixAll_refl : ∀ xs : List PyData, mixAll xs xs = true → PyData.eqvAll xs xs = true
  | [], _ => rfl
  | x :: xs, h => by
    have h' : mixOk x x = true ∧ mixAll xs xs = true := by simpa [mixAll] using h
    rw [PyData.eqvAll, mix_refl x h'.1, mixAll_refl xs h'.2]; rfl
end
mutual
theorem eqAt_mix : ∀ (da db : PyData) (A : Around) (s : Shared) (a b : Value), RdM s.heap a da → RdM s.heap b db → mixOk da db = true →
    A.units + min da.depth db.depth < cLine → EqAt A s a b (PyData.eqv da db)
  | .none, _, A, s, _, _, ra, rb, hm, hu => by
    cases ra with
    | none =>
      cases rb with
      | none => exact EqAt.same _
      | bool y => exact EqAt.none_bool y
      | int y u => exact EqAt.none_int y u
      | str y u => exact EqAt.none_str y u
      | @list l' vs' ys k1 k2 => exact EqAt.none_list k1 (room_here hu)
      | @tuple l' vs' ys k1 k2 => exact EqAt.none_tuple k1 (room_here hu)
      | dict k1 => exact EqAt.none_dct k1 (room_here hu)
  | .bool x, _, A, s, _, _, ra, rb, hm, hu => by
    cases ra with
    | bool _ =>
      cases rb with
      | none => exact EqAt.bool_none x
      | bool y => exact EqAt.bool_bool x y
      | int y u => exact EqAt.bool_int x y u
      | str y u => exact EqAt.bool_str x y u
      | @list l' vs' ys k1 k2 => exact EqAt.bool_list x k1 (room_here hu)
      | @tuple l' vs' ys k1 k2 => exact EqAt.bool_tuple x k1 (room_here hu)
      | dict k1 => exact EqAt.bool_dct x k1 (room_here hu)
  | .int x, _, A, s, _, _, ra, rb, hm, hu => by
    cases ra with
    | int _ t =>
      cases rb with
      | none => exact EqAt.int_none x t
      | bool y => exact EqAt.int_bool x t y
      | int y u => exact EqAt.int_int x t y u
      | str y u => exact EqAt.int_str x t y u
      | @list l' vs' ys k1 k2 => exact EqAt.int_list x t k1 (room_here hu)
      | @tuple l' vs' ys k1 k2 => exact EqAt.int_tuple x t k1 (room_here hu)
      | dict k1 => exact EqAt.int_dct x t k1 (room_here hu)
  | .str x, _, A, s, _, _, ra, rb, hm, hu => by
    cases ra with
    | str _ t =>
      cases rb with
      | none => exact EqAt.str_none x t
      | bool y => exact EqAt.str_bool x t y
      | int y u => exact EqAt.str_int x t y u
      | str y u => exact EqAt.str_str x t y u
      | @list l' vs' ys k1 k2 => exact EqAt.str_list x t k1 (room_here hu)
      | @tuple l' vs' ys k1 k2 => exact EqAt.str_tuple x t k1 (room_here hu)
      | dict k1 => exact EqAt.str_dct x t k1 (room_here hu)
  | .list xs, _, A, s, _, _, ra, rb, hm, hu => by
    cases ra with
    | @list l vs _ h1 h2 =>
      cases rb with
      | none => exact EqAt.list_none h1 (room_here hu)
      | bool y => exact EqAt.list_bool y h1 (room_here hu)
      | int y u => exact EqAt.list_int y u h1 (room_here hu)
      | str y u => exact EqAt.list_str y u h1 (room_here hu)
      | @list l' vs' ys k1 k2 =>
        have hal : mixAll xs ys = true := by simpa [mixOk] using hm
        have n1 : vs.size = xs.length := by simpa using RdMs.length _ _ h2
        have n2 : vs'.size = ys.length := by simpa using RdMs.length _ _ k2
        have he : ∀ j (j1 : j < vs.size) (j2 : j < vs'.size), EqAt A.in1 s vs[j] vs'[j] (pairEq xs ys j) := fun j j1 j2 => by
          have := eqAt_mixAll xs ys A.in1 s vs.toList vs'.toList h2 k2 hal (room_in hu) j (by simpa using j1) (by simpa using j2)
          simpa using this
        show EqAt A s (.ref l) (.ref l') (PyData.eqvAll xs ys)
        by_cases hll : l = l'
        · subst hll
          cases list_det h1 k1
          cases RdMs.det xs ys _ h2 k2
          rw [mixAll_refl xs hal]
          exact EqAt.same _
        · by_cases hsz : vs.size = vs'.size
          · rw [← eqvAll_same_length (by omega : xs.length = ys.length), ← n1]
            exact EqAt.of_refs hll (RcAt.lists h1 k1 hsz (room_here hu) he)
          · rw [eqvAll_other_length (by omega : xs.length ≠ ys.length)]
            exact EqAt.of_refs hll (RcAt.lists_lengths h1 k1 (by simpa using hsz) (room_here hu))
      | @tuple l' vs' ys k1 k2 => exact EqAt.list_tuple h1 k1 (room_here hu)
      | dict k1 => exact EqAt.list_dct h1 k1 (room_here hu)
  | .tuple xs, _, A, s, _, _, ra, rb, hm, hu => by
    cases ra with
    | @tuple l vs _ h1 h2 =>
      cases rb with
      | none => exact EqAt.tuple_none h1 (room_here hu)
      | bool y => exact EqAt.tuple_bool y h1 (room_here hu)
      | int y u => exact EqAt.tuple_int y u h1 (room_here hu)
      | str y u => exact EqAt.tuple_str y u h1 (room_here hu)
      | @list l' vs' ys k1 k2 => exact EqAt.tuple_list h1 k1 (room_here hu)
      | @tuple l' vs' ys k1 k2 =>
        have hal : mixAll xs ys = true := by simpa [mixOk] using hm
        have n1 : vs.size = xs.length := by simpa using RdMs.length _ _ h2
        have n2 : vs'.size = ys.length := by simpa using RdMs.length _ _ k2
        have he : ∀ j (j1 : j < vs.size) (j2 : j < vs'.size), EqAt A.in1 s vs[j] vs'[j] (pairEq xs ys j) := fun j j1 j2 => by
          have := eqAt_mixAll xs ys A.in1 s vs.toList vs'.toList h2 k2 hal (room_in hu) j (by simpa using j1) (by simpa using j2)
          simpa using this
        show EqAt A s (.ref l) (.ref l') (PyData.eqvAll xs ys)
        by_cases hll : l = l'
        · subst hll
          cases tuple_det h1 k1
          cases RdMs.det xs ys _ h2 k2
          rw [mixAll_refl xs hal]
          exact EqAt.same _
        · rw [← eqvAll_eq xs ys, ← n1, ← n2]
          exact EqAt.of_refs hll (RcAt.tuples h1 k1 (room_here hu) he)
      | dict k1 => exact EqAt.tuple_dct h1 k1 (room_here hu)
  | .dict _, _, A, s, _, _, ra, rb, hm, hu => by
    cases ra with
    | dict h1 =>
      cases rb with
      | none => exact EqAt.dct_none h1 (room_here hu)
      | bool y => exact EqAt.dct_bool y h1 (room_here hu)
      | int y u => exact EqAt.dct_int y u h1 (room_here hu)
      | str y u => exact EqAt.dct_str y u h1 (room_here hu)
      | @list l' vs' ys k1 k2 => exact EqAt.dct_list h1 k1 (room_here hu)
      | @tuple l' vs' ys k1 k2 => exact EqAt.dct_tuple h1 k1 (room_here hu)
      | dict k1 => exact absurd hm (by simp [mixOk])
theorem eqAt_mixAll : ∀ (xs ys : List PyData) (A : Around) (s : Shared) (vs ws : List Value), RdMs s.heap vs xs → RdMs s.heap ws ys → mixAll xs ys = true →
    A.units + min (PyData.depthAll xs) (PyData.depthAll ys) < cLine → ∀ j (h1 : j < vs.length) (h2 : j < ws.length), EqAt A s vs[j] ws[j] (pairEq xs ys j)
  | [], _, _, _, _, _, ra, _, _, _, j, h1, _ => by cases ra; exact absurd h1 (Nat.not_lt_zero _)
  | _ :: _, [], _, _, _, _, _, rb, _, _, j, _, h2 => by cases rb; exact absurd h2 (Nat.not_lt_zero _)
  | x :: xs, y :: ys, A, s, _, _, ra, rb, hm, hu, j, h1, h2 => by
    have hm' : mixOk x y = true ∧ mixAll xs ys = true := by simpa [mixAll] using hm
    cases ra with
    | cons r rs =>
      cases rb with
      | cons r' rs' =>
        cases j with
        | zero => exact eqAt_mix x y A s _ _ r r' hm'.1 (room_head hu)
        | succ j => exact eqAt_mixAll xs ys A s _ _ rs rs' hm'.2 (room_tail hu) j (Nat.lt_of_succ_lt_succ h1) (Nat.lt_of_succ_lt_succ h2)
end
theorem rcAt_mix {da db : PyData} {A : Around} {s : Shared} {a b : Value} (ra : RdM s.heap a da) (rb : RdM s.heap b db) (hm : mixOk da db = true)
    (hu : A.units + min da.depth db.depth < cLine) : RcAt A s a b (PyData.eqv da db) := by
  cases ra with
  | none =>
    cases rb with
    | none => exact RcAt.none_none
    | bool y => exact RcAt.none_bool y
    | int y u => exact RcAt.none_int y u
    | str y u => exact RcAt.none_str y u
    | @list l' vs' ys k1 k2 => exact RcAt.none_list k1 (room_here hu)
    | @tuple l' vs' ys k1 k2 => exact RcAt.none_tuple k1 (room_here hu)
    | dict k1 => exact RcAt.none_dct k1 (room_here hu)
  | bool x =>
    cases rb with
    | none => exact RcAt.bool_none x
    | bool y => exact RcAt.bool_bool x y
    | int y u => exact RcAt.bool_int x y u
    | str y u => exact RcAt.bool_str x y u
    | @list l' vs' ys k1 k2 => exact RcAt.bool_list x k1 (room_here hu)
    | @tuple l' vs' ys k1 k2 => exact RcAt.bool_tuple x k1 (room_here hu)
    | dict k1 => exact RcAt.bool_dct x k1 (room_here hu)
  | int x t =>
    cases rb with
    | none => exact RcAt.int_none x t
    | bool y => exact RcAt.int_bool x t y
    | int y u => exact RcAt.int_int x t y u
    | str y u => exact RcAt.int_str x t y u
    | @list l' vs' ys k1 k2 => exact RcAt.int_list x t k1 (room_here hu)
    | @tuple l' vs' ys k1 k2 => exact RcAt.int_tuple x t k1 (room_here hu)
    | dict k1 => exact RcAt.int_dct x t k1 (room_here hu)
  | str x t =>
    cases rb with
    | none => exact RcAt.str_none x t
    | bool y => exact RcAt.str_bool x t y
    | int y u => exact RcAt.str_int x t y u
    | str y u => exact RcAt.str_str x t y u
    | @list l' vs' ys k1 k2 => exact RcAt.str_list x t k1 (room_here hu)
    | @tuple l' vs' ys k1 k2 => exact RcAt.str_tuple x t k1 (room_here hu)
    | dict k1 => exact RcAt.str_dct x t k1 (room_here hu)
  | @list l vs xs h1 h2 =>
    cases rb with
    | none => exact RcAt.list_none h1 (room_here hu)
    | bool y => exact RcAt.list_bool y h1 (room_here hu)
    | int y u => exact RcAt.list_int y u h1 (room_here hu)
    | str y u => exact RcAt.list_str y u h1 (room_here hu)
    | @list l' vs' ys k1 k2 =>
      have hal : mixAll xs ys = true := by simpa [mixOk] using hm
      have n1 : vs.size = xs.length := by simpa using RdMs.length _ _ h2
      have n2 : vs'.size = ys.length := by simpa using RdMs.length _ _ k2
      have he : ∀ j (j1 : j < vs.size) (j2 : j < vs'.size), EqAt A.in1 s vs[j] vs'[j] (pairEq xs ys j) := fun j j1 j2 => by
        have := eqAt_mixAll xs ys A.in1 s vs.toList vs'.toList h2 k2 hal (room_in hu) j (by simpa using j1) (by simpa using j2)
        simpa using this
      show RcAt A s (.ref l) (.ref l') (PyData.eqvAll xs ys)
      by_cases hsz : vs.size = vs'.size
      · rw [← eqvAll_same_length (by omega : xs.length = ys.length), ← n1]
        exact RcAt.lists h1 k1 hsz (room_here hu) he
      · rw [eqvAll_other_length (by omega : xs.length ≠ ys.length)]
        exact RcAt.lists_lengths h1 k1 (by simpa using hsz) (room_here hu)
    | @tuple l' vs' ys k1 k2 => exact RcAt.list_tuple h1 k1 (room_here hu)
    | dict k1 => exact RcAt.list_dct h1 k1 (room_here hu)
  | @tuple l vs xs h1 h2 =>
    cases rb with
    | none => exact RcAt.tuple_none h1 (room_here hu)
    | bool y => exact RcAt.tuple_bool y h1 (room_here hu)
    | int y u => exact RcAt.tuple_int y u h1 (room_here hu)
    | str y u => exact RcAt.tuple_str y u h1 (room_here hu)
    | @list l' vs' ys k1 k2 => exact RcAt.tuple_list h1 k1 (room_here hu)
    | @tuple l' vs' ys k1 k2 =>
      have hal : mixAll xs ys = true := by simpa [mixOk] using hm
      have n1 : vs.size = xs.length := by simpa using RdMs.length _ _ h2
      have n2 : vs'.size = ys.length := by simpa using RdMs.length _ _ k2
      have he : ∀ j (j1 : j < vs.size) (j2 : j < vs'.size), EqAt A.in1 s vs[j] vs'[j] (pairEq xs ys j) := fun j j1 j2 => by
        have := eqAt_mixAll xs ys A.in1 s vs.toList vs'.toList h2 k2 hal (room_in hu) j (by simpa using j1) (by simpa using j2)
        simpa using this
      show RcAt A s (.ref l) (.ref l') (PyData.eqvAll xs ys)
      rw [← eqvAll_eq xs ys, ← n1, ← n2]
      exact RcAt.tuples h1 k1 (room_here hu) he
    | dict k1 => exact RcAt.tuple_dct h1 k1 (room_here hu)
  | dict h1 =>
    cases rb with
    | none => exact RcAt.dct_none h1 (room_here hu)
    | bool y => exact RcAt.dct_bool y h1 (room_here hu)
    | int y u => exact RcAt.dct_int y u h1 (room_here hu)
    | str y u => exact RcAt.dct_str y u h1 (room_here hu)
    | @list l' vs' ys k1 k2 => exact RcAt.dct_list h1 k1 (room_here hu)
    | @tuple l' vs' ys k1 k2 => exact RcAt.dct_tuple h1 k1 (room_here hu)
    | dict k1 => exact absurd hm (by simp [mixOk])
theorem rcNe_mix {da db : PyData} {A : Around} {s : Shared} {a b : Value} (ra : RdM s.heap a da) (rb : RdM s.heap b db) (hm : mixOk da db = true)
    (hu : A.units + min da.depth db.depth < cLine) : RcNeAt A s a b (!PyData.eqv da db) := by
  cases ra with
  | none =>
    cases rb with
    | none => exact RcNeAt.none_none
    | bool y => exact RcNeAt.none_bool y
    | int y u => exact RcNeAt.none_int y u
    | str y u => exact RcNeAt.none_str y u
    | @list l' vs' ys k1 k2 => exact RcNeAt.none_list k1 (room_here hu)
    | @tuple l' vs' ys k1 k2 => exact RcNeAt.none_tuple k1 (room_here hu)
    | dict k1 => exact RcNeAt.none_dct k1 (room_here hu)
  | bool x =>
    cases rb with
    | none => exact RcNeAt.bool_none x
    | bool y => exact RcNeAt.bool_bool x y
    | int y u => exact RcNeAt.bool_int x y u
    | str y u => exact RcNeAt.bool_str x y u
    | @list l' vs' ys k1 k2 => exact RcNeAt.bool_list x k1 (room_here hu)
    | @tuple l' vs' ys k1 k2 => exact RcNeAt.bool_tuple x k1 (room_here hu)
    | dict k1 => exact RcNeAt.bool_dct x k1 (room_here hu)
  | int x t =>
    cases rb with
    | none => exact RcNeAt.int_none x t
    | bool y => exact RcNeAt.int_bool x t y
    | int y u => exact RcNeAt.int_int x t y u
    | str y u => exact RcNeAt.int_str x t y u
    | @list l' vs' ys k1 k2 => exact RcNeAt.int_list x t k1 (room_here hu)
    | @tuple l' vs' ys k1 k2 => exact RcNeAt.int_tuple x t k1 (room_here hu)
    | dict k1 => exact RcNeAt.int_dct x t k1 (room_here hu)
  | str x t =>
    cases rb with
    | none => exact RcNeAt.str_none x t
    | bool y => exact RcNeAt.str_bool x t y
    | int y u => exact RcNeAt.str_int x t y u
    | str y u => exact RcNeAt.str_str x t y u
    | @list l' vs' ys k1 k2 => exact RcNeAt.str_list x t k1 (room_here hu)
    | @tuple l' vs' ys k1 k2 => exact RcNeAt.str_tuple x t k1 (room_here hu)
    | dict k1 => exact RcNeAt.str_dct x t k1 (room_here hu)
  | @list l vs xs h1 h2 =>
    cases rb with
    | none => exact RcNeAt.list_none h1 (room_here hu)
    | bool y => exact RcNeAt.list_bool y h1 (room_here hu)
    | int y u => exact RcNeAt.list_int y u h1 (room_here hu)
    | str y u => exact RcNeAt.list_str y u h1 (room_here hu)
    | @list l' vs' ys k1 k2 =>
      have hal : mixAll xs ys = true := by simpa [mixOk] using hm
      have n1 : vs.size = xs.length := by simpa using RdMs.length _ _ h2
      have n2 : vs'.size = ys.length := by simpa using RdMs.length _ _ k2
      have he : ∀ j (j1 : j < vs.size) (j2 : j < vs'.size), EqAt A.in1 s vs[j] vs'[j] (pairEq xs ys j) := fun j j1 j2 => by
        have := eqAt_mixAll xs ys A.in1 s vs.toList vs'.toList h2 k2 hal (room_in hu) j (by simpa using j1) (by simpa using j2)
        simpa using this
      show RcNeAt A s (.ref l) (.ref l') (!PyData.eqvAll xs ys)
      by_cases hsz : vs.size = vs'.size
      · rw [← eqvAll_same_length (by omega : xs.length = ys.length), ← n1]
        exact RcNeAt.lists h1 k1 hsz (room_here hu) he
      · rw [eqvAll_other_length (by omega : xs.length ≠ ys.length)]
        exact RcNeAt.lists_lengths h1 k1 (by simpa using hsz) (room_here hu)
    | @tuple l' vs' ys k1 k2 => exact RcNeAt.list_tuple h1 k1 (room_here hu)
    | dict k1 => exact RcNeAt.list_dct h1 k1 (room_here hu)
  | @tuple l vs xs h1 h2 =>
    cases rb with
    | none => exact RcNeAt.tuple_none h1 (room_here hu)
    | bool y => exact RcNeAt.tuple_bool y h1 (room_here hu)
    | int y u => exact RcNeAt.tuple_int y u h1 (room_here hu)
    | str y u => exact RcNeAt.tuple_str y u h1 (room_here hu)
    | @list l' vs' ys k1 k2 => exact RcNeAt.tuple_list h1 k1 (room_here hu)
    | @tuple l' vs' ys k1 k2 =>
      have hal : mixAll xs ys = true := by simpa [mixOk] using hm
      have n1 : vs.size = xs.length := by simpa using RdMs.length _ _ h2
      have n2 : vs'.size = ys.length := by simpa using RdMs.length _ _ k2
      have he : ∀ j (j1 : j < vs.size) (j2 : j < vs'.size), EqAt A.in1 s vs[j] vs'[j] (pairEq xs ys j) := fun j j1 j2 => by
        have := eqAt_mixAll xs ys A.in1 s vs.toList vs'.toList h2 k2 hal (room_in hu) j (by simpa using j1) (by simpa using j2)
        simpa using this
      show RcNeAt A s (.ref l) (.ref l') (!PyData.eqvAll xs ys)
      rw [← eqvAll_eq xs ys, ← n1, ← n2]
      exact RcNeAt.tuples h1 k1 (room_here hu) he
    | dict k1 => exact RcNeAt.tuple_dct h1 k1 (room_here hu)
  | dict h1 =>
    cases rb with
    | none => exact RcNeAt.dct_none h1 (room_here hu)
    | bool y => exact RcNeAt.dct_bool y h1 (room_here hu)
    | int y u => exact RcNeAt.dct_int y u h1 (room_here hu)
    | str y u => exact RcNeAt.dct_str y u h1 (room_here hu)
    | @list l' vs' ys k1 k2 => exact RcNeAt.dct_list h1 k1 (room_here hu)
    | @tuple l' vs' ys k1 k2 => exact RcNeAt.dct_tuple h1 k1 (room_here hu)
    | dict k1 => exact absurd hm (by simp [mixOk])
theorem eq_mix {prog : Program} {w : World} {A : Around} {E : Value → Shared → Prop} {s : Shared} {a b : Value} {da db : PyData} {Q : Value → Shared → Prop}
    (ra : RdM s.heap a da) (rb : RdM s.heap b db) (hm : mixOk da db = true) (hu : A.units + min da.depth db.depth < cLine) (h : Q (.bool (PyData.eqv da db)) s) :
    wpAny (model prog w) A (compareOp .Eq a b) Q E s := rcAt_mix ra rb hm hu prog w E Q h
theorem ne_mix {prog : Program} {w : World} {A : Around} {E : Value → Shared → Prop} {s : Shared} {a b : Value} {da db : PyData} {Q : Value → Shared → Prop}
    (ra : RdM s.heap a da) (rb : RdM s.heap b db) (hm : mixOk da db = true) (hu : A.units + min da.depth db.depth < cLine) (h : Q (.bool (!PyData.eqv da db)) s) :
    wpAny (model prog w) A (compareOp .NotEq a b) Q E s := rcNe_mix ra rb hm hu prog w E Q h
open Classical in
noncomputable def rdOf (h : Heap) (v : Value) : PyData := if x : ∃ d, RdM h v d then x.choose else .none
theorem rdOf_eq {h : Heap} {v : Value} {d : PyData} (r : RdM h v d) : rdOf h v = d := by
  have hx : ∃ d, RdM h v d := ⟨d, r⟩
  unfold rdOf
  rw [dif_pos hx]
  exact (RdM.det _ _ _ r hx.choose_spec).symm
theorem rdOf_map {h : Heap} : ∀ (xs : List PyData) (vs : List Value), RdMs h vs xs → vs.map (rdOf h) = xs
  | [], _, r => by cases r; rfl
  | x :: xs, _, r => by
    cases r with
    | cons r1 r2 => rw [List.map_cons, rdOf_eq r1, rdOf_map xs _ r2]
theorem RdMs.mem {h : Heap} : ∀ (xs : List PyData) (vs : List Value), RdMs h vs xs → ∀ y ∈ vs, ∃ d ∈ xs, RdM h y d
  | [], _, r, y, hy => by cases r; cases hy
  | x :: xs, _, r, y, hy => by
    cases r with
    | cons r1 r2 =>
      rcases List.mem_cons.mp hy with e | hy
      · subst e; exact ⟨x, List.mem_cons_self .., r1⟩
      · obtain ⟨d, h1, h2⟩ := RdMs.mem xs _ r2 y hy
        exact ⟨d, List.mem_cons_of_mem _ h1, h2⟩
section
variable {prog : Program} {w : World} {A : Around} {E : Value → Shared → Prop} {s : Shared} {l : Addr} {x : Value} {xs : List PyData} {d : PyData} {vs : Array Value} {Q : Value → Shared → Prop}
theorem mix_he (rs : RdMs s.heap vs.toList xs) (rx : RdM s.heap x d) (hm : xs.all (fun y => mixOk y d) = true) (hu : A.units + 1 + d.depth < cLine) : ∀ y, y ∈ vs → EqAt A.in1 s y x (PyData.eqv (rdOf s.heap y) d) := fun y hy => by
  obtain ⟨e, he, r⟩ := RdMs.mem xs _ rs y (by simpa using hy)
  rw [rdOf_eq r]
  refine eqAt_mix e d A.in1 s y x r rx (List.all_eq_true.mp hm e he) ?_
  have : min e.depth d.depth ≤ d.depth := Nat.min_le_right _ _
  show A.units + 1 + _ < cLine
  omega
theorem mix_any (rs : RdMs s.heap vs.toList xs) : (vs.any fun y => PyData.eqv (rdOf s.heap y) d) = xs.any fun y => PyData.eqv y d := by
  have e : vs.toList.any (fun y => PyData.eqv (rdOf s.heap y) d) = (vs.toList.map (rdOf s.heap)).any fun y => PyData.eqv y d := by rw [List.any_map]; rfl
  rw [← Array.any_toList, e, rdOf_map xs _ rs]
theorem in_list_mix (hl : s.heap.IsList l vs) (rs : RdMs s.heap vs.toList xs) (rx : RdM s.heap x d) (hm : xs.all (fun y => mixOk y d) = true) (hu : A.units + 1 + d.depth < cLine) (h : Q (.bool (xs.any fun y => PyData.eqv y d)) s) : wpAny (model prog w) A (compareOp .In x (.ref l)) Q E s :=
  in_listAt _ hl (mix_he rs rx hm hu) (by rw [mix_any rs]; exact h)
theorem notIn_list_mix (hl : s.heap.IsList l vs) (rs : RdMs s.heap vs.toList xs) (rx : RdM s.heap x d) (hm : xs.all (fun y => mixOk y d) = true) (hu : A.units + 1 + d.depth < cLine) (h : Q (.bool (!xs.any fun y => PyData.eqv y d)) s) : wpAny (model prog w) A (compareOp .NotIn x (.ref l)) Q E s :=
  notIn_listAt _ hl (mix_he rs rx hm hu) (by rw [mix_any rs]; exact h)
theorem in_tuple_mix (hl : s.heap.IsTuple l vs) (rs : RdMs s.heap vs.toList xs) (rx : RdM s.heap x d) (hm : xs.all (fun y => mixOk y d) = true) (hu : A.units + 1 + d.depth < cLine) (h : Q (.bool (xs.any fun y => PyData.eqv y d)) s) : wpAny (model prog w) A (compareOp .In x (.ref l)) Q E s :=
  in_tupleAt _ hl (mix_he rs rx hm hu) (by rw [mix_any rs]; exact h)
theorem notIn_tuple_mix (hl : s.heap.IsTuple l vs) (rs : RdMs s.heap vs.toList xs) (rx : RdM s.heap x d) (hm : xs.all (fun y => mixOk y d) = true) (hu : A.units + 1 + d.depth < cLine) (h : Q (.bool (!xs.any fun y => PyData.eqv y d)) s) : wpAny (model prog w) A (compareOp .NotIn x (.ref l)) Q E s :=
  notIn_tupleAt _ hl (mix_he rs rx hm hu) (by rw [mix_any rs]; exact h)
end
end PySem.SeqAt
namespace PD
open PySem PySem.Spec L2
open PyProof.Rows hiding St
inductive D where
  | non | bl (b : Bool) | int (i : Int) | str (x : Str)
  | tup (xs : List D) | lst (xs : List D) | scr (xs : List D) | dct (ks : List Key) (xs : List D)
  | obj (c : Str) (x : D) | id (n : Nat)
inductive MO where
  | lst (xs : List D) | ins (c : Str) (fs : List (Str × D))
abbrev GS := List MO
structure Exc where
  c : Str
  f : Option (Str × D)
inductive Out (α : Type) where
  | ok (a : α) (g : GS) | ex (e : Exc) (g : GS) | st
def M (α : Type) : Type := GS → Out α
def M.pure {α : Type} (a : α) : M α := fun g => .ok a g
def M.bind {α β : Type} (m : M α) (k : α → M β) : M β := fun g => match m g with
  | .ok a g' => k a g'
  | .ex e g' => .ex e g'
  | .st => .st
instance : Monad M where
  pure := M.pure
  bind := M.bind
def stuck {α : Type} : M α := fun _ => .st
def raise {α : Type} (e : Exc) : M α := fun g => .ex e g
theorem M.pure_bind {α β : Type} (a : α) (k : α → M β) : (Pure.pure a >>= k : M β) = k a := rfl
theorem M.bind_assoc {α β γ : Type} (m : M α) (k : α → M β) (l : β → M γ) : ((m >>= k) >>= l : M γ) = m >>= fun a => k a >>= l := by
  funext g
  show (match (match m g with | .ok a g' => k a g' | .ex e g' => .ex e g' | .st => .st) with | .ok a g' => l a g' | .ex e g' => .ex e g' | .st => .st) = (match m g with | .ok a g' => (match k a g' with | .ok a g' => l a g' | .ex e g' => .ex e g' | .st => .st) | .ex e g' => .ex e g' | .st => .st)
  cases m g <;> rfl
theorem M.bind_pure {α : Type} (m : M α) : (m >>= fun a => Pure.pure a : M α) = m := by
  funext g
  show (match m g with | .ok a g' => .ok a g' | .ex e g' => .ex e g' | .st => .st) = m g
  cases m g <;> rfl
theorem M.stuck_bind {α β : Type} (k : α → M β) : (stuck >>= k : M β) = stuck := rfl
theorem M.raise_bind {α β : Type} (e : Exc) (k : α → M β) : (raise e >>= k : M β) = raise e := rfl
instance : LawfulMonad M := LawfulMonad.mk' M (fun m => by
    funext g
    show (match m g with | .ok a g' => .ok a g' | .ex e g' => .ex e g' | .st => .st) = m g
    cases m g <;> rfl) (fun _ _ => rfl) (fun m k l => M.bind_assoc m k l)
theorem M.bind_run {α β : Type} (m : M α) (k : α → M β) (g : GS) : (m >>= k) g = match m g with | .ok a g' => k a g' | .ex e g' => .ex e g' | .st => .st := rfl
theorem M.pure_run {α : Type} (a : α) (g : GS) : (Pure.pure a : M α) g = .ok a g := rfl
structure Wd where
  K : PySem.W.Frag
  ca : Str → Addr
mutual
inductive Rep (W : Wd) (μ : List Addr) (F : Hp) : D → V → Prop where
  | non : Rep W μ F .non .non
  | bl (b : Bool) : Rep W μ F (.bl b) (.bl b)
  | int (i : Int) : Rep W μ F (.int i) (.int i)
  | str (x : Str) : Rep W μ F (.str x) (.str x)
  | tup {a : Addr} {vs : List V} {ds : List D} (h : TupS W.K F a vs) (r : Reps W μ F ds vs) : Rep W μ F (.tup ds) (.ref a)
  | lst {a : Addr} {vs : List V} {ds : List D} (h : F a = some (.lst vs)) (r : Reps W μ F ds vs) : Rep W μ F (.lst ds) (.ref a)
  | scr {a : Addr} {vs : List V} {ds : List D} (h : SqL W.K F a vs) (r : Reps W μ F ds vs) : Rep W μ F (.scr ds) (.ref a)
  | dct {a : Addr} {kvs : List (Key × V)} {ds : List D} (h : F a = some (.dK kvs)) (r : Reps W μ F ds (kvs.map (·.2))) : Rep W μ F (.dct (kvs.map (·.1)) ds) (.ref a)
  | obj {a dx : Addr} {c : Str} {w : V} {d : D} (h : F a = some (.ins (W.ca c) dx [(("both" : Str), w)])) (r : Rep W μ F d w) : Rep W μ F (.obj c d) (.ref a)
  | id {a : Addr} {n : Nat} (h : μ[n]? = some a) : Rep W μ F (.id n) (.ref a)
inductive Reps (W : Wd) (μ : List Addr) (F : Hp) : List D → List V → Prop where
  | nil : Reps W μ F [] []
  | cons {d : D} {v : V} {ds : List D} {vs : List V} (r : Rep W μ F d v) (t : Reps W μ F ds vs) : Reps W μ F (d :: ds) (v :: vs)
end
theorem Same.tup {K : PySem.W.Frag} {H H' : Hp} {a : Addr} {xs : List V} (e : Same H H') (h : SqT K H a xs) : SqT K H' a xs := by
  rcases h with (h | ⟨o, h⟩) | h
  · exact .inl (.inl (e _ _ h))
  · exact .inl (.inr ⟨o, e _ _ h⟩)
  · exact .inr h
theorem Same.tupS {K : PySem.W.Frag} {H H' : Hp} {a : Addr} {xs : List V} (e : Same H H') (h : TupS K H a xs) : TupS K H' a xs := by
  rcases h with ⟨o, h, hd⟩ | h
  · exact .inl ⟨o, e _ _ h, hd⟩
  · exact .inr h
section
variable {W : Wd} {μ μ' : List Addr} {F F' : Hp}
def Grow (μ μ' : List Addr) : Prop := ∀ (n : Nat) a, μ[n]? = some a → μ'[n]? = some a
theorem Grow.refl : Grow μ μ := fun _ _ h => h
theorem Grow.trans {μ1 μ2 μ3 : List Addr} (a : Grow μ1 μ2) (b : Grow μ2 μ3) : Grow μ1 μ3 := fun n x h => b n x (a n x h)
mutual
theorem Rep.mono (hm : Grow μ μ') (hF : Same F F') : ∀ {d : D} {v : V}, Rep W μ F d v → Rep W μ' F' d v
  | _, _, .non => .non
  | _, _, .bl b => .bl b
  | _, _, .int i => .int i
  | _, _, .str x => .str x
  | _, _, .tup h r => .tup (Same.tupS hF h) (Reps.mono hm hF r)
  | _, _, .lst h r => .lst (hF _ _ h) (Reps.mono hm hF r)
  | _, _, .scr h r => .scr (hF.seq h) (Reps.mono hm hF r)
  | _, _, .dct h r => .dct (hF _ _ h) (Reps.mono hm hF r)
  | _, _, .obj h r => .obj (hF _ _ h) (Rep.mono hm hF r)
  | _, _, .id h => .id (hm _ _ h)
theorem Reps.mono (hm : Grow μ μ') (hF : Same F F') : ∀ {ds : List D} {vs : List V}, Reps W μ F ds vs → Reps W μ' F' ds vs
  | _, _, .nil => .nil
  | _, _, .cons r t => .cons (Rep.mono hm hF r) (Reps.mono hm hF t)
end
theorem Reps.length : ∀ {ds : List D} {vs : List V}, Reps W μ F ds vs → ds.length = vs.length
  | _, _, .nil => rfl
  | _, _, .cons _ t => by rw [List.length_cons, List.length_cons, Reps.length t]
theorem Reps.get : ∀ {ds : List D} {vs : List V} {i : Nat} {d : D}, Reps W μ F ds vs → ds[i]? = some d → ∃ v, vs[i]? = some v ∧ Rep W μ F d v
  | _, _, _, _, .nil, e => by simp at e
  | _, _, 0, _, .cons r _, e => by simp at e; subst e; exact ⟨_, rfl, r⟩
  | _, _, i + 1, d, .cons _ t, e => by
    obtain ⟨v, h1, h2⟩ := Reps.get (i := i) (d := d) t (by simpa using e)
    exact ⟨v, by simpa using h1, h2⟩
theorem Reps.getV : ∀ {ds : List D} {vs : List V} {i : Nat} {v : V}, Reps W μ F ds vs → vs[i]? = some v → ∃ d, ds[i]? = some d ∧ Rep W μ F d v
  | _, _, _, _, .nil, e => by simp at e
  | _, _, 0, _, .cons r _, e => by simp at e; subst e; exact ⟨_, rfl, r⟩
  | _, _, i + 1, d, .cons _ t, e => by
    obtain ⟨v, h1, h2⟩ := Reps.getV (i := i) (v := d) t (by simpa using e)
    exact ⟨v, by simpa using h1, h2⟩
theorem Reps.append : ∀ {ds es : List D} {vs ws : List V}, Reps W μ F ds vs → Reps W μ F es ws → Reps W μ F (ds ++ es) (vs ++ ws)
  | _, _, _, _, .nil, s => s
  | _, _, _, _, .cons r t, s => .cons r (Reps.append t s)
theorem Reps.one {d : D} {v : V} (r : Rep W μ F d v) : Reps W μ F [d] [v] := .cons r .nil
theorem Reps.take : ∀ {ds : List D} {vs : List V} (n : Nat), Reps W μ F ds vs → Reps W μ F (ds.take n) (vs.take n)
  | _, _, 0, _ => .nil
  | _, _, _ + 1, .nil => .nil
  | _, _, n + 1, .cons r t => .cons r (Reps.take n t)
theorem Reps.drop : ∀ {ds : List D} {vs : List V} (n : Nat), Reps W μ F ds vs → Reps W μ F (ds.drop n) (vs.drop n)
  | _, _, 0, r => r
  | _, _, _ + 1, .nil => .nil
  | _, _, n + 1, .cons _ t => Reps.drop n t
theorem Reps.reverse {ds : List D} {vs : List V} (h : Reps W μ F ds vs) : Reps W μ F ds.reverse vs.reverse := by
  induction ds generalizing vs with
  | nil => cases h; exact .nil
  | cons d ds ih =>
    cases h with
    | cons r t =>
      rw [List.reverse_cons, List.reverse_cons]
      exact (ih t).append (.one r)
theorem Reps.eraseIdx : ∀ {ds : List D} {vs : List V} (i : Nat), Reps W μ F ds vs → Reps W μ F (ds.eraseIdx i) (vs.eraseIdx i)
  | _, _, _, .nil => .nil
  | _, _, 0, .cons _ t => t
  | _, _, i + 1, .cons r t => .cons r (Reps.eraseIdx i t)
theorem Reps.set {d : D} {v : V} (r : Rep W μ F d v) : ∀ {ds : List D} {vs : List V} (i : Nat), Reps W μ F ds vs → Reps W μ F (ds.set i d) (vs.set i v)
  | _, _, _, .nil => .nil
  | _, _, 0, .cons _ t => .cons r t
  | _, _, i + 1, .cons q t => .cons q (Reps.set r i t)
theorem Reps.strs : ∀ {xs : List Str} {vs : List V}, Reps W μ F (xs.map D.str) vs → vs = xs.map V.str
  | [], _, h => by cases h; rfl
  | x :: xs, _, h => by
    cases h with
    | cons r t =>
      cases r
      rw [Reps.strs (xs := xs) t]
      rfl
theorem Reps.ofStrs : ∀ xs : List Str, Reps W μ F (xs.map D.str) (xs.map V.str)
  | [] => .nil
  | x :: xs => .cons (.str x) (Reps.ofStrs xs)
theorem Reps.ints : ∀ {xs : List Int} {vs : List V}, Reps W μ F (xs.map D.int) vs → vs = xs.map V.int
  | [], _, h => by cases h; rfl
  | x :: xs, _, h => by
    cases h with
    | cons r t =>
      cases r
      rw [Reps.ints (xs := xs) t]
      rfl
theorem Reps.ofInts : ∀ xs : List Int, Reps W μ F (xs.map D.int) (xs.map V.int)
  | [] => .nil
  | x :: xs => .cons (.int x) (Reps.ofInts xs)
theorem Reps.bls : ∀ {xs : List Bool} {vs : List V}, Reps W μ F (xs.map D.bl) vs → vs = xs.map V.bl
  | [], _, h => by cases h; rfl
  | x :: xs, _, h => by
    cases h with
    | cons r t =>
      cases r
      rw [Reps.bls (xs := xs) t]
      rfl
theorem Reps.ofBls : ∀ xs : List Bool, Reps W μ F (xs.map D.bl) (xs.map V.bl)
  | [] => .nil
  | x :: xs => .cons (.bl x) (Reps.ofBls xs)
end
def MoAt (W : Wd) (μ : List Addr) (F H : Hp) (a : Addr) : MO → Prop
  | .lst xs => ∃ vs, H a = some (.lst vs) ∧ Reps W μ F xs vs
  | .ins c fs => ∃ dx ws, H a = some (.ins (W.ca c) dx ((fs.map (·.1)).zip ws)) ∧ Reps W μ F (fs.map (·.2)) ws
structure RG (W : Wd) (g : GS) (μ : List Addr) (F H : Hp) : Prop where
  sub : Same F H
  len : μ.length = g.length
  nd : ∀ (i j : Nat) a, μ[i]? = some a → μ[j]? = some a → i = j
  out : ∀ (n : Nat) a, μ[n]? = some a → F a = none
  at_ : ∀ (n : Nat) a o, μ[n]? = some a → g[n]? = some o → MoAt W μ F H a o
def Stay (H H' : Hp) : Prop := ∀ a, H a ≠ none → H' a ≠ none
def Guard (B : Addr → Prop) (F H : Hp) : Prop := ∀ a, B a → F a = none ∧ H a ≠ none
structure Fu (B : Addr → Prop) (μ : List Addr) (F H : Hp) (μ' : List Addr) (F' H' : Hp) : Prop where
  grow : Grow μ μ'
  new : ∀ (n : Nat) a, B a → μ'[n]? = some a → μ[n]? = some a ∨ H a = none
  fro : Same F F'
  keep : ∀ a o, B a → H a = some o → (∀ n : Nat, μ[n]? ≠ some a) → H' a = some o
  out : ∀ a, B a → F' a = none
  stay : Stay H H'
theorem Fu.refl {B : Addr → Prop} {μ : List Addr} {F H : Hp} (gd : Guard B F H) : Fu B μ F H μ F H := ⟨.refl, fun _ _ _ h => .inl h, .refl F, fun _ _ _ h _ => h, fun a h => (gd a h).1, fun _ h => h⟩
theorem Fu.trans {B B' : Addr → Prop} {μ μ1 μ2 : List Addr} {F F1 F2 H H1 H2 : Hp} (a : Fu B μ F H μ1 F1 H1) (b : Fu B' μ1 F1 H1 μ2 F2 H2) (hB : ∀ x, B x → B' x) : Fu B μ F H μ2 F2 H2 where
  grow := a.grow.trans b.grow
  new := fun n x hx h => by
    rcases b.new n x (hB x hx) h with h | h
    · exact a.new n x hx h
    · refine .inr ?_
      cases q : H x with
      | none => rfl
      | some o => exact absurd h (a.stay x (by rw [q]; simp))
  fro := a.fro.trans b.fro
  keep := fun x o hx h hn => b.keep x o (hB x hx) (a.keep x o hx h hn) fun n e => by
    rcases a.new n x hx e with h' | h'
    · exact hn n h'
    · rw [h] at h'; cases h'
  out := fun x h => b.out x (hB x h)
  stay := fun x h => b.stay x (a.stay x h)
theorem Fu.less {B B' : Addr → Prop} {μ μ1 : List Addr} {F F1 H H1 : Hp} (a : Fu B' μ F H μ1 F1 H1) (hB : ∀ x, B x → B' x) : Fu B μ F H μ1 F1 H1 := ⟨a.grow, fun n x hx => a.new n x (hB x hx), a.fro, fun x o hx => a.keep x o (hB x hx), fun x h => a.out x (hB x h), a.stay⟩
theorem Guard.fu {B B' : Addr → Prop} {μ μ1 : List Addr} {F F1 H H1 : Hp} (gd : Guard B F H) (a : Fu B' μ F H μ1 F1 H1) (hB : ∀ x, B x → B' x) : Guard B F1 H1 := fun x h => ⟨a.out x (hB x h), a.stay x (gd x h).2⟩
inductive SV where
  | un | d (x : D) | ol (xs : List D) | od (ks : List Key) (xs : List D)
abbrev Ro := List SV
def SlotAt (W : Wd) (μ : List Addr) (F H : Hp) : SV → Option V → Prop
  | .un, _ => True
  | .d x, o => ∃ v, o = some v ∧ Rep W μ F x v
  | .ol xs, o => ∃ l vs, o = some (.ref l) ∧ H l = some (.lst vs) ∧ F l = none ∧ (∀ n : Nat, μ[n]? ≠ some l) ∧ Reps W μ F xs vs
  | .od ks xs, o => ∃ l kvs, o = some (.ref l) ∧ H l = some (.dK kvs) ∧ F l = none ∧ (∀ n : Nat, μ[n]? ≠ some l) ∧ kvs.map (·.1) = ks ∧ Reps W μ F xs (kvs.map (·.2))
def SV.own : SV → Bool
  | .ol _ => true
  | .od _ _ => true
  | _ => false
structure Rel (W : Wd) (μ : List Addr) (F H : Hp) (ρ : Ro) (σ : L2.St) : Prop where
  len : ρ.length = σ.length
  at_ : ∀ (i : Nat) x o, ρ[i]? = some x → σ[i]? = some o → SlotAt W μ F H x o
  own : ∀ (i j : Nat) x y v, ρ[i]? = some x → ρ[j]? = some y → x.own = true → y.own = true → σ[i]? = some v → σ[j]? = some v → i = j
section
variable {W : Wd} {μ μ' : List Addr} {F F' H H' : Hp} {ρ : Ro} {σ : L2.St}
theorem SlotAt.fut {B : Addr → Prop} (f : Fu B μ F H μ' F' H') {x : SV} {o : Option V} (hB : ∀ a, x.own = true → o = some (.ref a) → B a) (h : SlotAt W μ F H x o) : SlotAt W μ' F' H' x o := by
  cases x with
  | un => trivial
  | d x =>
    obtain ⟨v, e, r⟩ := h
    exact ⟨v, e, r.mono f.grow f.fro⟩
  | ol xs =>
    obtain ⟨l, vs, e, hl, fl, nm, r⟩ := h
    exact ⟨l, vs, e, f.keep _ _ (hB l rfl e) hl nm, f.out l (hB l rfl e), fun n q => (f.new n l (hB l rfl e) q).elim (nm n) (fun z => by rw [hl] at z; cases z), r.mono f.grow f.fro⟩
  | od ks xs =>
    obtain ⟨l, vs, e, hl, fl, nm, ek, r⟩ := h
    exact ⟨l, vs, e, f.keep _ _ (hB l rfl e) hl nm, f.out l (hB l rfl e), fun n q => (f.new n l (hB l rfl e) q).elim (nm n) (fun z => by rw [hl] at z; cases z), ek, r.mono f.grow f.fro⟩
def Owns (ρ : Ro) (σ : L2.St) (a : Addr) : Prop := ∃ (i : Nat) (x : SV), ρ[i]? = some x ∧ x.own = true ∧ σ[i]? = some (some (.ref a))
theorem Rel.fut {B : Addr → Prop} (f : Fu B μ F H μ' F' H') (hB : ∀ a, Owns ρ σ a → B a) (h : Rel W μ F H ρ σ) : Rel W μ' F' H' ρ σ :=
  ⟨h.len, fun i x o e1 e2 => (h.at_ i x o e1 e2).fut f fun a z q => hB a ⟨i, x, e1, z, by rw [e2, q]⟩, h.own⟩
theorem Rel.ownAt (h : Rel W μ F H ρ σ) {a : Addr} (o : Owns ρ σ a) : F a = none ∧ H a ≠ none ∧ ∀ n : Nat, μ[n]? ≠ some a := by
  obtain ⟨i, x, e1, z, e2⟩ := o
  have q := h.at_ i x _ e1 e2
  cases x with
  | un => cases z
  | d x => cases z
  | ol xs =>
    obtain ⟨l, vs, e, hl, fl, nm, r⟩ := q
    cases e
    exact ⟨fl, by rw [hl]; simp, nm⟩
  | od ks xs =>
    obtain ⟨l, vs, e, hl, fl, nm, ek, r⟩ := q
    cases e
    exact ⟨fl, by rw [hl]; simp, nm⟩
theorem Rel.setD {i : Nat} {x : D} {v : V} (h : Rel W μ F H ρ σ) (r : Rep W μ F x v) : Rel W μ F H (ρ.set i (.d x)) (σ.set i (some v)) := by
  refine ⟨by simp [h.len], fun j y o e1 e2 => ?_, fun j k y z o e1 e2 o1 o2 e3 e4 => ?_⟩
  · by_cases hj : i = j
    · subst hj
      rw [List.getElem?_set_self' ] at e1 e2
      cases hr : ρ[i]? with
      | none => rw [hr] at e1; cases e1
      | some _ =>
        rw [hr] at e1
        cases hs : σ[i]? with
        | none => rw [hs] at e2; cases e2
        | some _ =>
          rw [hs] at e2
          cases e1; cases e2
          exact ⟨v, rfl, r⟩
    · rw [List.getElem?_set_ne hj] at e1 e2
      exact h.at_ j y o e1 e2
  · have nj : i ≠ j := fun q => by
      subst q
      rw [List.getElem?_set_self'] at e1
      cases hr : ρ[i]? with
      | none => rw [hr] at e1; cases e1
      | some _ => rw [hr] at e1; cases e1; cases o1
    have nk : i ≠ k := fun q => by
      subst q
      rw [List.getElem?_set_self'] at e2
      cases hr : ρ[i]? with
      | none => rw [hr] at e2; cases e2
      | some _ => rw [hr] at e2; cases e2; cases o2
    rw [List.getElem?_set_ne nj] at e1 e3
    rw [List.getElem?_set_ne nk] at e2 e4
    exact h.own j k y z o e1 e2 o1 o2 e3 e4
theorem Rel.setU {i : Nat} {o : Option V} (h : Rel W μ F H ρ σ) : Rel W μ F H (ρ.set i .un) (σ.set i o) := by
  refine ⟨by simp [h.len], fun j y o e1 e2 => ?_, fun j k y z o e1 e2 o1 o2 e3 e4 => ?_⟩
  · by_cases hj : i = j
    · subst hj
      rw [List.getElem?_set_self' ] at e1
      cases hr : ρ[i]? with
      | none => rw [hr] at e1; cases e1
      | some _ => rw [hr] at e1; cases e1; trivial
    · rw [List.getElem?_set_ne hj] at e1 e2
      exact h.at_ j y o e1 e2
  · have nj : i ≠ j := fun q => by
      subst q
      rw [List.getElem?_set_self'] at e1
      cases hr : ρ[i]? with
      | none => rw [hr] at e1; cases e1
      | some _ => rw [hr] at e1; cases e1; cases o1
    have nk : i ≠ k := fun q => by
      subst q
      rw [List.getElem?_set_self'] at e2
      cases hr : ρ[i]? with
      | none => rw [hr] at e2; cases e2
      | some _ => rw [hr] at e2; cases e2; cases o2
    rw [List.getElem?_set_ne nj] at e1 e3
    rw [List.getElem?_set_ne nk] at e2 e4
    exact h.own j k y z o e1 e2 o1 o2 e3 e4
theorem Rel.setO {i : Nat} {x : SV} {l : Addr} (h : Rel W μ F H ρ σ) (r : SlotAt W μ F H x (some (.ref l))) (ne : ∀ (j : Nat) y, j ≠ i → ρ[j]? = some y → y.own = true → σ[j]? ≠ some (some (.ref l))) : Rel W μ F H (ρ.set i x) (σ.set i (some (.ref l))) := by
  have key : ∀ (j : Nat) y o, (ρ.set i x)[j]? = some y → (σ.set i (some (.ref l)))[j]? = some o → (j = i ∧ y = x ∧ o = some (.ref l)) ∨ (j ≠ i ∧ ρ[j]? = some y ∧ σ[j]? = some o) := by
    intro j y o e1 e2
    by_cases hj : i = j
    · subst hj
      rw [List.getElem?_set_self'] at e1 e2
      cases hr : ρ[i]? with
      | none => rw [hr] at e1; cases e1
      | some _ =>
        rw [hr] at e1
        cases hs : σ[i]? with
        | none => rw [hs] at e2; cases e2
        | some _ =>
          rw [hs] at e2
          cases e1; cases e2
          exact .inl ⟨rfl, rfl, rfl⟩
    · rw [List.getElem?_set_ne hj] at e1 e2
      exact .inr ⟨fun q => hj q.symm, e1, e2⟩
  refine ⟨by simp [h.len], fun j y o e1 e2 => ?_, fun j k y z o e1 e2 o1 o2 e3 e4 => ?_⟩
  · rcases key j y o e1 e2 with ⟨_, rfl, rfl⟩ | ⟨_, e1, e2⟩
    · exact r
    · exact h.at_ j y o e1 e2
  · rcases key j y o e1 e3 with ⟨a1, a2, a3⟩ | ⟨a1, a2, a3⟩ <;> rcases key k z o e2 e4 with ⟨b1, b2, b3⟩ | ⟨b1, b2, b3⟩
    · rw [a1, b1]
    · subst a3
      exact absurd b3 (ne k z b1 b2 o2)
    · subst b3
      exact absurd a3 (ne j y a1 a2 o1)
    · exact h.own j k y z o a2 b2 o1 o2 a3 b3
end
def ExR (W : Wd) (μ : List Addr) (F H : Hp) (e : Exc) (cls : Value) (d : Option Addr) : Prop :=
  cls = .ref (W.ca e.c) ∧ match e.f with
    | none => d = none
    | some (f, x) => ∃ dd v, d = some dd ∧ H dd = some (.xd [(f, v)]) ∧ Rep W μ F x v
def Run {α : Type} (W : Wd) (Wx : WX) (n : Nat) (B : Addr → Prop) (μ : List Addr) (F H : Hp) (o : Out α) (Q : α → GS → List Addr → Hp → Hp → Prop) : Prop :=
  match o with
  | .ok a g' => ∀ μ' F' H', Fu B μ F H μ' F' H' → RG W g' μ' F' H' → Q a g' μ' F' H'
  | .ex e g' => ∀ μ' F' H' cls d σ', Fu B μ F H μ' F' H' → RG W g' μ' F' H' → ExR W μ' F' H' e cls d → σ'.length = n → Wx cls d σ' H'
  | .st => False
section
variable {α β : Type} {W : Wd} {Wx : WX} {n : Nat} {B B' : Addr → Prop} {μ : List Addr} {F H : Hp}
theorem Run.mono {o : Out α} {Q Q' : α → GS → List Addr → Hp → Hp → Prop} (h : Run W Wx n B μ F H o Q) (hB : ∀ x, B x → B' x) (k : ∀ a g' μ' F' H', Fu B' μ F H μ' F' H' → RG W g' μ' F' H' → Q a g' μ' F' H' → Q' a g' μ' F' H') : Run W Wx n B' μ F H o Q' := by
  cases o with
  | ok a g' => exact fun μ' F' H' f r => k _ _ _ _ _ f r (h μ' F' H' (f.less hB) r)
  | ex e g' => exact fun μ' F' H' cls d σ' f r => h μ' F' H' cls d σ' (f.less hB) r
  | st => exact h
theorem Run.later {o : Out α} {Q : α → GS → List Addr → Hp → Hp → Prop} {μ' : List Addr} {F' H' : Hp} (h : Run W Wx n B μ F H o Q) (f : Fu B' μ F H μ' F' H') (hB : ∀ x, B x → B' x) : Run W Wx n B μ' F' H' o Q := by
  cases o with
  | ok a g' => exact fun μ2 F2 H2 f2 r => h μ2 F2 H2 ((f.less hB).trans f2 fun _ z => z) r
  | ex e g' => exact fun μ2 F2 H2 cls d σ' f2 r => h μ2 F2 H2 cls d σ' ((f.less hB).trans f2 fun _ z => z) r
  | st => exact h
theorem Run.bind {m : M α} {k : α → M β} {g : GS} {Q : β → GS → List Addr → Hp → Hp → Prop} (h : Run W Wx n B μ F H ((m >>= k) g) Q) (hB : ∀ x, B x → B' x) :
    Run W Wx n B' μ F H (m g) fun a g' μ' F' H' => Run W Wx n B μ' F' H' (k a g') Q := by
  rw [M.bind_run] at h
  cases e : m g with
  | ok a g' =>
    rw [e] at h
    exact fun μ' F' H' f _ => h.later f hB
  | ex ee g' =>
    rw [e] at h
    exact fun μ' F' H' cls d σ' f r => h μ' F' H' cls d σ' (f.less hB) r
  | st =>
    rw [e] at h
    exact h
theorem Run.pure {a : α} {g : GS} {Q : α → GS → List Addr → Hp → Hp → Prop} (h : Run W Wx n B μ F H ((Pure.pure a : M α) g) Q) (gd : Guard B F H) (r : RG W g μ F H) : Q a g μ F H := h μ F H (.refl gd) r
end
structure At (W : Wd) (B : Addr → Prop) (μ : List Addr) (F H : Hp) (g : GS) (ρ : Ro) (σ : L2.St) : Prop where
  gd : Guard B F H
  rel : Rel W μ F H ρ σ
  rg : RG W g μ F H
  own : ∀ a, Owns ρ σ a → B a
structure AtS (W : Wd) (B : Addr → Prop) (μ : List Addr) (F H : Hp) (g : GS) (ρ : Ro) (σ : L2.St) : Prop where
  gd : Guard B F H
  rel : Rel W μ F H ρ σ
  rg : RG W g μ F H
  own : ∀ a, Owns ρ σ a → ¬ B a
theorem At.fu {W : Wd} {B B' : Addr → Prop} {μ μ' : List Addr} {F F' H H' : Hp} {g g' : GS} {ρ : Ro} {σ : L2.St} (a : At W B μ F H g ρ σ) (f : Fu B' μ F H μ' F' H') (hB : ∀ x, B x → B' x) (r : RG W g' μ' F' H') : At W B μ' F' H' g' ρ σ :=
  ⟨a.gd.fu f hB, a.rel.fut f fun x z => hB x (a.own x z), r, a.own⟩
theorem AtS.fu {W : Wd} {B B' : Addr → Prop} {μ μ' : List Addr} {F F' H H' : Hp} {g g' : GS} {ρ : Ro} {σ : L2.St} (a : AtS W B μ F H g ρ σ) (f : Fu B' μ F H μ' F' H') (hB : ∀ x, B x ∨ Owns ρ σ x → B' x) (r : RG W g' μ' F' H') : AtS W B μ' F' H' g' ρ σ :=
  ⟨a.gd.fu f fun x z => hB x (.inl z), a.rel.fut f fun x z => hB x (.inr z), r, a.own⟩
theorem AtS.at_ {W : Wd} {B : Addr → Prop} {μ : List Addr} {F H : Hp} {g : GS} {ρ : Ro} {σ : L2.St} (a : AtS W B μ F H g ρ σ) : At W (fun x => B x ∨ Owns ρ σ x) μ F H g ρ σ :=
  ⟨fun x z => z.elim (a.gd x) fun z => ⟨(a.rel.ownAt z).1, (a.rel.ownAt z).2.1⟩, a.rel, a.rg, fun _ z => .inr z⟩
section
variable (W : Wd) (Wx : WX)
def tE (ρ : Ro) (m : M D) : TE := fun σ H Q => ∃ B μ F g, At W B μ F H g ρ σ ∧ Run W Wx σ.length B μ F H (m g) fun d _ μ' F' H' => ∀ v, Rep W μ' F' d v → Q v H'
def tT (ρ : Ro) (m : M Bool) : TT := fun σ H Q => ∃ B μ F g, At W B μ F H g ρ σ ∧ Run W Wx σ.length B μ F H (m g) fun b _ _ _ H' => Q b H'
def SeqAt (B : Addr → Prop) (μ : List Addr) (F H : Hp) (tupl : Bool) (ds : List D) (v : V) : Prop :=
  ∃ a vs, v = .ref a ∧ Reps W μ F ds vs ∧ (if tupl = true then SqT W.K F a vs else SqL W.K F a vs ∨ (H a = some (.lst vs) ∧ (∀ n : Nat, μ[n]? ≠ some a) ∧ B a))
def tQ (ρ : Ro) (m : M (Bool × List D)) : TE := fun σ H Q => ∃ B μ F g, At W B μ F H g ρ σ ∧ Run W Wx σ.length B μ F H (m g) fun ds _ μ' F' H' => ∀ v, SeqAt W B μ' F' H' ds.1 ds.2 v → Q v H'
def tN (ρ : Ro) (m : M (List D)) : TE := fun σ H Q => ∃ B μ F g, At W B μ F H g ρ σ ∧ Run W Wx σ.length B μ F H (m g) fun ds _ μ' F' H' => ∀ l vs, H l = none → H' l = some (.lst vs) → F' l = none → (∀ n : Nat, μ'[n]? ≠ some l) → Reps W μ' F' ds vs → Q (.ref l) H'
inductive Fl (S : Type) where
  | nx (s : S) | ret (d : D) | bk (s : S) | ct (s : S)
def EndQ {S : Type} (n : Nat) (B : Addr → Prop) (D : Ends) (mk : S → Ro) : Fl S → GS → List Addr → Hp → Hp → Prop
  | .nx s, g', μ', F', H' => ∀ σ' : L2.St, σ'.length = n → AtS W B μ' F' H' g' (mk s) σ' → D.nx σ' H'
  | .ret d, _, μ', F', H' => ∀ v, Rep W μ' F' d v → D.rt v H'
  | .bk s, g', μ', F', H' => ∀ σ' : L2.St, σ'.length = n → AtS W B μ' F' H' g' (mk s) σ' → D.bk σ' H'
  | .ct s, g', μ', F', H' => ∀ σ' : L2.St, σ'.length = n → AtS W B μ' F' H' g' (mk s) σ' → D.ct σ' H'
def tS {S : Type} (ρ : Ro) (mk : S → Ro) (m : M (Fl S)) : TS := fun D σ H => ∃ B μ F g, AtS W B μ F H g ρ σ ∧ Run W Wx σ.length B μ F H (m g) (EndQ W σ.length B D mk)
end
structure PDe (X : Cx) (W : Wd) (Wx : WX) (e : Expr) (ρ : Ro) (m : M D) : Prop where
  p : PE X e (tE W Wx ρ m)
structure PDt (X : Cx) (W : Wd) (Wx : WX) (e : Expr) (ρ : Ro) (m : M Bool) : Prop where
  p : PT X e (tT W Wx ρ m)
structure PDw (X : Cx) (W : Wd) (Wx : WX) (e : Expr) (ρ : Ro) (m : M Bool) : Prop where
  p : PW X e (tT W Wx ρ m)
structure PDq (X : Cx) (W : Wd) (Wx : WX) (e : Expr) (ρ : Ro) (m : M (Bool × List D)) : Prop where
  p : PE X e (tQ W Wx ρ m)
structure PDn (X : Cx) (W : Wd) (Wx : WX) (e : Expr) (ρ : Ro) (m : M (List D)) : Prop where
  p : PE X e (tN W Wx ρ m)
structure PD1 {S : Type} (X : Cx) (W : Wd) (Wx : WX) (st : Stmt) (ρ : Ro) (mk : S → Ro) (m : M (Fl S)) : Prop where
  p : PS X st (tS W Wx ρ mk m)
structure PDs {S : Type} (X : Cx) (W : Wd) (Wx : WX) (sts : List Stmt) (ρ : Ro) (mk : S → Ro) (m : M (Fl S)) : Prop where
  p : PSs X sts (tS W Wx ρ mk m)
theorem PEw {X : Cx} {e : Expr} {t u : TE} (h : PE X e t) (k : ∀ σ H Q, u σ H Q → t σ H Q) : PE X e u := ⟨fun pins s σ H Q I q => h.run pins s σ H Q I (k σ H Q q)⟩
theorem PTw {X : Cx} {e : Expr} {t u : TT} (h : PT X e t) (k : ∀ σ H Q, u σ H Q → t σ H Q) : PT X e u := ⟨fun pins s σ H Q I q => h.run pins s σ H Q I (k σ H Q q)⟩
theorem PWw {X : Cx} {e : Expr} {t u : TT} (h : PW X e t) (k : ∀ σ H Q, u σ H Q → t σ H Q) : PW X e u := ⟨fun wh pins s σ H Q I q => h.run wh pins s σ H Q I (k σ H Q q)⟩
theorem PAw {X : Cx} {es : List Expr} {t u : TA} (h : PA X es t) (k : ∀ σ H Q, u σ H Q → t σ H Q) : PA X es u := ⟨fun pos pins s σ H Q I q => h.run pos pins s σ H Q I (k σ H Q q)⟩
theorem PSw {X : Cx} {st : Stmt} {t u : TS} (h : PS X st t) (k : ∀ D σ H, u D σ H → t D σ H) : PS X st u := ⟨fun pins s σ H D I q => h.run pins s σ H D I (k D σ H q)⟩
theorem PSsw {X : Cx} {st : List Stmt} {t u : TS} (h : PSs X st t) (k : ∀ D σ H, u D σ H → t D σ H) : PSs X st u := ⟨fun pins s σ H D I q => h.run pins s σ H D I (k D σ H q)⟩
end PD
namespace PD
open PySem PySem.Spec L2
open PyProof.Rows hiding St
structure FnG (P : Program) (w : World) (K : PySem.W.Frag) (mg : Str → Option Value) (base : Heap) (k : Nat) (f : Addr) (fd : FuncData) (ps : List Str) (sp : Sp) : Prop where
  len : ∀ vs H Q E, sp vs H Q E → vs.length = ps.length
  run : ∀ (A : Around) (fr : List Env) (s : Shared) (H : Hp) (ar : Args) (us : List Value) (vs : List V) (Q : VK) (E : XK), A.guards = some [] → Room k A → Env0 P w K mg base A fr s H →
    BindsTo s fd ar (ps.zip us) → Vals vs us → sp vs H Q E → codeAny (model P w) A (.call (.ref f) ar) (CR (L2.CX P w) fr P w H s Q E) s
theorem FnG.mono {P : Program} {w : World} {K : PySem.W.Frag} {mg : Str → Option Value} {base : Heap} {j k : Nat} {f : Addr} {fd : FuncData} {ps : List Str} {sp : Sp} (F : FnG P w K mg base j f fd ps sp) (h : j ≤ k) : FnG P w K mg base k f fd ps sp :=
  ⟨F.len, fun A fr s H ar us vs Q E gd hr => F.run A fr s H ar us vs Q E gd (hr.mono h)⟩
theorem FnG.imp {P : Program} {w : World} {K : PySem.W.Frag} {mg : Str → Option Value} {base : Heap} {k : Nat} {f : Addr} {fd : FuncData} {ps : List Str} {sp sp' : Sp} (F : FnG P w K mg base k f fd ps sp)
    (h : ∀ vs H Q E, sp' vs H Q E → sp vs H Q E) : FnG P w K mg base k f fd ps sp' :=
  ⟨fun vs H Q E z => F.len vs H Q E (h _ _ _ _ z), fun A fr s H ar us vs Q E gd hr e0 b r z => F.run A fr s H ar us vs Q E gd hr e0 b r (h _ _ _ _ z)⟩
theorem fnG_of {P : Program} {w : World} {K : PySem.W.Frag} {mg : Str → Option Value} {base : Heap} {k : Nat} {f : Addr} {fd : FuncData} {name qual : Str} {params : Arguments} {body : List Stmt} {scope : Scope} {dvs : List V} {kws : List (Str × V)} {N ps : List Str} {sp : Sp}
    (D : FunD K name qual params body scope dvs kws f fd) (S : FnScope N ps scope) (len : ∀ vs H Q E, sp vs H Q E → vs.length = ps.length)
    (hb : ∀ (cdv : Value) (A : Around) (fr : List Env) (s : Shared) (H : Hp) (vs : List V) (Q : VK) (E : XK), (A.deeper (envOfC qual scope s.heap.objs.size f cdv)).guards = some [] → Room k (A.deeper (envOfC qual scope s.heap.objs.size f cdv)) → sp vs H Q E →
      ∃ t, PSs (cxOf (L2.CX P w) P w K mg base N qual scope f cdv A fr s H E) body t ∧ t { nx := fun _ H' => Q .non H', rt := Q } (start N vs) H) : FnG P w K mg base (k + 1) f fd ps sp := by
  obtain ⟨oc, od, dV, kV, doc, pm, an, cdv, ct, osl, rfl, lk, cd0, _, _⟩ := D.ex
  constructor
  · exact len
  intro A fr s H ar us vs Q E gd hr e0 hbi rv hsp
  have ll := len _ _ _ _ hsp
  have KI : K.In s.heap := e0.mod.kin.keeps fun b o z => (e0.bs b o z).1
  have nl : s.heap.NoLimit := e0.mod.nolimit.keeps fun b o z => (e0.bs b o z).1
  have kinds : ∀ y ∈ ps.zip us, scope.names.lookup y.1 = some .local ∨ (scope.names.lookup y.1 = some .cell ∧ ((cellsFrom (s.heap.objs.size + 1) scope.names []).lookup y.1).isSome = true) := by
    intro y hy
    have hm : y.1 ∈ ps := (List.of_mem_zip (show (y.1, y.2) ∈ ps.zip us from hy)).1
    rcases S.par y.1 hm with z | z
    · exact .inl z
    · exact .inr ⟨z, PySem.W.cellsFrom_some _ _ _ (.inl z)⟩
  refine codeAny_call_function hr.depth (KI _ _ lk) rfl S.co S.gen rfl (PySem.W.codeRec_of KI cd0) (hbi _ _ _ _ ?_)
  refine wpAny_newFunctionEnv_cells S.kind kinds ?_
  intro env he s1 x
  subst he
  refine ⟨nl.keeps x.toInCall.keep, codeAny_func ?_⟩
  obtain ⟨t, ht, tq⟩ := hb cdv A fr s H vs Q E gd (hr.deeper _) hsp
  have J : Inv (cxOf (L2.CX P w) P w K mg base N qual scope f cdv A fr s H E) [] (start N vs) H s1 := inv_start S hr.hd e0 ll rv x
  refine wpAny_mono (ht.run [] s1 (start N vs) H _ J tq) ?_ (fun _ _ z => z)
  intro fl s2 e
  have last : ∀ {σ2 : L2.St} {H2 : Hp} {v : V} {u : Value}, Inv (cxOf (L2.CX P w) P w K mg base N qual scope f cdv A fr s H E) [] σ2 H2 s2 → RelV v u → Q v H2 → CE fr P w H s Q u s2 :=
    fun {σ2 H2 v u} J2 ru qv => ⟨v, H2, J2.os, J2.bare, J2.base, J2.hok, ru, qv⟩
  match fl, e with
  | .ret u, ⟨v, σ2, H2, J2, ru, qv⟩ => exact last J2 ru qv
  | .next, ⟨σ2, H2, J2, qv⟩ => exact last (v := V.non) (u := Value.none) J2 rfl qv
  | .brk, ⟨_, _, _, z⟩ => exact z.elim
  | .cont, ⟨_, _, _, z⟩ => exact z.elim
def spD (W : Wd) (n : Nat) (m : List D → M D) : Sp := fun vs H Q E => vs.length = n ∧ ∃ B μ F g ds, Guard B F H ∧ RG W g μ F H ∧ Reps W μ F ds vs ∧
  Run W (fun cls d _ H' => E cls d H') 0 B μ F H (m ds g) fun d _ μ' F' H' => ∀ v, Rep W μ' F' d v → Q v H'
structure Bd (X : Cx) (k : Nat) : Prop where
  rm : Room k X.A
  gd : X.A.guards = some []
theorem Bd.mono {X : Cx} {j k : Nat} (b : Bd X k) (h : j ≤ k) : Bd X j := ⟨b.rm.mono h, b.gd⟩
def BindD (K : PySem.W.Frag) (fd : FuncData) (ps : List Str) (n : Nat) (ks : List Str) (g : List Value → List Value → List Value) : Prop :=
  ∀ (s : Shared) (us ws : List Value), K.In s.heap → us.length = n → ws.length = ks.length → BindsTo s fd ⟨us, ks.zip ws⟩ (ps.zip (g us ws))
section
variable {X : Cx} {pins : List (Addr × Obj)} {σ : L2.St} {H : Hp} {s : Shared} {k : Nat} {f : Addr} {fd : FuncData} {ps : List Str} {sp : Sp} {Wx : WX}
theorem runA (F : FnG X.prog X.w X.K X.mg X.base k f fd ps sp) (A : Around) (ga : A.guards = some []) (hr : Room k A) (e0 : Env0 X.prog X.w X.K X.mg X.base A X.stack s H) (tk : Takes X Wx) (I : Inv X pins σ H s) {ar : Args} {us : List Value} {vs : List V} {Q : VK}
    (hb : BindsTo s fd ar (ps.zip us)) (r : Vals vs us) (h : sp vs H Q (WE Wx σ)) :
    codeAny (model X.prog X.w) A (.call (.ref f) ar) (fun res s' => match res with | .ok (.ret u) => EP X pins σ Q u s' | .ok _ => False | .error e => X.xe e s') s := by
  refine codeAny_mono (F.run A X.stack s H ar us vs Q (WE Wx σ) ga hr e0 hb r h) ?_
  intro res s2 z
  match res, z with
  | .error e, z => exact passAt tk σ pins H s e s2 I z
  | .ok (.ret u), z => exact I.after z
  | .ok .next, z => exact z.elim
  | .ok .brk, z => exact z.elim
  | .ok .cont, z => exact z.elim
theorem runG (F : FnG X.prog X.w X.K X.mg X.base k f fd ps sp) (b : Bd X k) (tk : Takes X Wx) (I : Inv X pins σ H s) {us ws all : List Value} {ks : List Str} {vs : List V} {Q : VK}
    (hb : BindsTo s fd ⟨us, ks.zip ws⟩ (ps.zip all)) (r : Vals vs all) (h : sp vs H Q (WE Wx σ)) : wpAny (model X.prog X.w) X.A (call (.ref f) us (ks.zip ws)) (EP X pins σ Q) X.xe s := by
  refine wpAny_call (codeAny_mono (runA F X.A b.gd b.rm I.env0 tk I hb r h) ?_)
  intro res s2 z
  match res, z with
  | .error e, z => exact z
  | .ok (.ret u), z => exact z
  | .ok .next, z => exact z.elim
  | .ok .brk, z => exact z.elim
  | .ok .cont, z => exact z.elim
end
theorem spD_of {W : Wd} {Wx : WX} {n : Nat} {m : List D → M D} {B : Addr → Prop} {μ : List Addr} {F H : Hp} {g : GS} {ρ : Ro} {σ : L2.St} {ds : List D} {vs : List V} {Q : VK} (a : At W B μ F H g ρ σ) (r : Reps W μ F ds vs) (hn : vs.length = n)
    (h : Run W Wx σ.length B μ F H (m ds g) fun d _ μ' F' H' => ∀ v, Rep W μ' F' d v → Q v H') : spD W n m vs H Q (WE Wx σ) := by
  refine ⟨hn, B, μ, F, g, ds, a.gd, a.rg, r, ?_⟩
  revert h
  cases m ds g with
  | ok d g' => exact id
  | ex e g' => exact fun h μ' F' H' cls d _ f rg x _ => h μ' F' H' cls d σ f rg x rfl
  | st => exact id
end PD
namespace PD
open PySem PySem.Spec L2
open PyProof.Rows hiding St
def keyPy : Key → PyData
  | .inl i => .int i
  | .inr x => .str x
mutual
def D.py : D → PyData
  | .non => .none
  | .bl b => .bool b
  | .int i => .int i
  | .str x => .str x
  | .tup xs => .tuple (pyAll xs)
  | .lst xs => .list (pyAll xs)
  | .scr xs => .list (pyAll xs)
  | .dct _ _ => .dict []
  | .obj _ _ => .none
  | .id _ => .none
def pyAll : List D → List PyData
  | [] => []
  | x :: xs => x.py :: pyAll xs
end
mutual
def D.dat : D → Bool
  | .non => true
  | .bl _ => true
  | .int _ => true
  | .str _ => true
  | .tup xs => datAll xs
  | .lst xs => datAll xs
  | .scr xs => datAll xs
  | .dct _ xs => datAll xs
  | .obj _ _ => false
  | .id _ => false
def datAll : List D → Bool
  | [] => true
  | x :: xs => x.dat && datAll xs
end
theorem pyAll_map (xs : List D) : pyAll xs = xs.map D.py := by
  induction xs with
  | nil => rfl
  | cons x xs ih => rw [pyAll, ih]; rfl
theorem datAll_all (xs : List D) : datAll xs = xs.all D.dat := by
  induction xs with
  | nil => rfl
  | cons x xs ih => rw [datAll, ih]; rfl
section
variable {X : Cx} {pins : List (Addr × Obj)} {σ : L2.St} {H F : Hp} {s : Shared} {W : Wd} {μ : List Addr}
theorem keys_reads {h : Heap} : ∀ (es : List DictEntry) (kvs : List (Key × Value)), es = kvs.map (fun p => (⟨keyH X.w p.1, (kV p.1 |> fun _ => p.2), p.2⟩ : DictEntry)) → True := fun _ _ _ => trivial
mutual
theorem Rep.reads (I : Inv X pins σ H s) (hF : Same F H) (hK : W.K = X.K) : ∀ {d : D} {v : V} {u : Value}, Rep W μ F d v → d.dat = true → d.py.plain = true → RelV v u → ∃ as, Reads s.heap u d.py as
  | _, _, _, .non, _, _, r => by cases r; exact ⟨_, Reads.none⟩
  | _, _, _, .bl b, _, _, r => by cases r; exact ⟨_, Reads.bool b⟩
  | _, _, _, .int i, _, _, r => by obtain ⟨t, rfl⟩ := r; exact ⟨_, Reads.int i t⟩
  | _, _, _, .str x, _, _, r => by obtain ⟨t, rfl⟩ := r; exact ⟨_, Reads.str x t⟩
  | _, _, _, .tup h rs, hd, hp, r => by
    cases r
    rw [hK] at h
    obtain ⟨its, rv, ⟨o, ho, hc, n, hdd⟩, _⟩ := I.tuple (Same.tup hF h.sq)
    obtain ⟨as, q⟩ := Reps.reads I hF hK rs hd hp rv
    exact ⟨_, Reads.tuple ho hc hdd q⟩
  | _, _, _, .lst h rs, hd, hp, r => by
    cases r
    obtain ⟨its, rv, ⟨o, n, ho, hc, _, hdd⟩, _⟩ := I.list (SqL.of (K := X.K) (hF _ _ h))
    obtain ⟨as, q⟩ := Reps.reads I hF hK rs hd hp rv
    exact ⟨_, Reads.list ho hc hdd q⟩
  | _, _, _, .scr h rs, hd, hp, r => by
    cases r
    rw [hK] at h
    obtain ⟨its, rv, ⟨o, n, ho, hc, _, hdd⟩, _⟩ := I.list (hF.seq h)
    obtain ⟨as, q⟩ := Reps.reads I hF hK rs hd hp rv
    exact ⟨_, Reads.list ho hc hdd q⟩
  | _, _, _, .dct _ _, _, hp, _ => by cases hp
  | _, _, _, .obj _ _, hd, _, _ => by cases hd
  | _, _, _, .id _, hd, _, _ => by cases hd
theorem Reps.reads (I : Inv X pins σ H s) (hF : Same F H) (hK : W.K = X.K) : ∀ {ds : List D} {vs : List V} {us : List Value}, Reps W μ F ds vs → datAll ds = true → PyData.plainAll (pyAll ds) = true → Vals vs us → ∃ as, ReadsAll s.heap us (pyAll ds) as
  | _, _, _, .nil, _, _, r => by cases r; exact ⟨_, ReadsAll.nil⟩
  | _, _, _, .cons q t, hd, hp, r => by
    cases r with
    | cons r1 r2 =>
      simp only [datAll, Bool.and_eq_true] at hd
      simp only [pyAll, PyData.plainAll, Bool.and_eq_true] at hp
      obtain ⟨as, h1⟩ := Rep.reads I hF hK q hd.1 hp.1 r1
      obtain ⟨bs, h2⟩ := Reps.reads I hF hK t hd.2 hp.2 r2
      exact ⟨_, ReadsAll.cons h1 h2⟩
end
end
section
variable {X : Cx} {pins : List (Addr × Obj)} {σ : L2.St} {H F : Hp} {s : Shared} {W : Wd} {μ : List Addr}
mutual
theorem Rep.rdm (I : Inv X pins σ H s) (hF : Same F H) (hK : W.K = X.K) : ∀ {d : D} {v : V} {u : Value}, Rep W μ F d v → d.dat = true → RelV v u → SeqAt.RdM s.heap u d.py
  | _, _, _, .non, _, r => by cases r; exact .none
  | _, _, _, .bl b, _, r => by cases r; exact .bool b
  | _, _, _, .int i, _, r => by obtain ⟨t, rfl⟩ := r; exact .int i t
  | _, _, _, .str x, _, r => by obtain ⟨t, rfl⟩ := r; exact .str x t
  | _, _, _, .tup h rs, hd, r => by
    cases r
    rw [hK] at h
    obtain ⟨its, rv, pl, _⟩ := I.tuple (Same.tup hF h.sq)
    exact .tuple pl (Reps.rdm I hF hK rs hd (by simpa using rv))
  | _, _, _, .lst h rs, hd, r => by
    cases r
    obtain ⟨its, rv, ⟨o, n, ho, hc, _, hdd⟩, _⟩ := I.list (SqL.of (K := X.K) (hF _ _ h))
    exact .list ⟨o, ho, hc, n, hdd⟩ (Reps.rdm I hF hK rs hd (by simpa using rv))
  | _, _, _, .scr h rs, hd, r => by
    cases r
    rw [hK] at h
    obtain ⟨its, rv, ⟨o, n, ho, hc, _, hdd⟩, _⟩ := I.list (hF.seq h)
    exact .list ⟨o, ho, hc, n, hdd⟩ (Reps.rdm I hF hK rs hd (by simpa using rv))
  | _, _, _, .dct h _, _, r => by
    cases r
    obtain ⟨_, _, vs, _, p⟩ := (show ObjOk X.prog X.w H s.heap _ _ from I.hok _ _ (hF _ _ h))
    obtain ⟨o, es, ep, ho, hc, hdd, _⟩ := p
    exact .dict ⟨o, ho, hc.1, es, ep, hdd⟩
  | _, _, _, .obj _ _, hd, _ => by cases hd
  | _, _, _, .id _, hd, _ => by cases hd
theorem Reps.rdm (I : Inv X pins σ H s) (hF : Same F H) (hK : W.K = X.K) : ∀ {ds : List D} {vs : List V} {us : List Value}, Reps W μ F ds vs → datAll ds = true → Vals vs us → SeqAt.RdMs s.heap us (pyAll ds)
  | _, _, _, .nil, _, r => by cases r; exact .nil
  | _, _, _, .cons q t, hd, r => by
    cases r with
    | cons r1 r2 =>
      simp only [datAll, Bool.and_eq_true] at hd
      exact .cons (Rep.rdm I hF hK q hd.1 r1) (Reps.rdm I hF hK t hd.2 r2)
end
end
def D.flat (d : D) : Bool := d.dat && d.py.plain && decide (d.py.depth ≤ 40)
def b1 {α β : Type} (f : α → M β) (m : M α) : M β := m >>= f
def b2 {α β γ : Type} (f : α → β → M γ) (m : M α) (k : M β) : M γ := m >>= fun x => k >>= fun y => f x y
section
variable {X : Cx} {W : Wd} {Wx : WX} {ρ : Ro}
def OpD (W : Wd) (r : R2) (f : D → D → M D) : Prop := ∀ (B : Addr → Prop) μ F H g x y dx dy (Q : VK) Wx n, Guard B F H → RG W g μ F H → Rep W μ F dx x → Rep W μ F dy y →
  Run W Wx n B μ F H (f dx dy g) (fun d _ μ' F' H' => ∀ v, Rep W μ' F' d v → Q v H') → r x y H Q
theorem opD {r : R2} {f : D → D → M D} (h : OpD W r f) {m1 m2 : M D} {σ : L2.St} {H : Hp} {Q : VK} (q : tE W Wx ρ (b2 f m1 m2) σ H Q) : tOp r (tE W Wx ρ m1) (tE W Wx ρ m2) σ H Q := by
  obtain ⟨B, μ, F, g, a, q⟩ := q
  refine ⟨B, μ, F, g, a, (Run.bind q fun _ z => z).mono (fun _ z => z) fun d1 g1 μ1 F1 H1 f1 r1 q1 v1 p1 => ?_⟩
  have a1 := a.fu f1 (fun _ z => z) r1
  refine ⟨B, μ1, F1, g1, a1, (Run.bind q1 fun _ z => z).mono (fun _ z => z) fun d2 g2 μ2 F2 H2 f2 r2 q2 v2 p2 => ?_⟩
  exact h B μ2 F2 H2 g2 v1 v2 d1 d2 Q Wx _ (a1.fu f2 (fun _ z => z) r2).gd r2 (p1.mono f2.grow f2.fro) p2 q2
theorem pd_op {op : Operator} {r : R2} {f : D → D → M D} {a b : Expr} {m1 m2 : M D} {pos : Pos} (ho : OpR X (binaryOp op) r) (h : OpD W r f) (ha : PDe X W Wx a ρ m1) (hb : PDe X W Wx b ρ m2) : PDe X W Wx (.BinOp a op b pos) ρ (b2 f m1 m2) :=
  ⟨PEw (pe_op ho ha.p hb.p) fun _ _ _ q => opD h q⟩
theorem pd_cmp {op : CmpOp} {r : R2} {f : D → D → M D} {a b : Expr} {m1 m2 : M D} {pos : Pos} (ho : OpR X (compareOp op) r) (h : OpD W r f) (ha : PDe X W Wx a ρ m1) (hb : PDe X W Wx b ρ m2) (hm : behindInMarks op b = false) : PDe X W Wx (.Compare a [op] [b] pos) ρ (b2 f m1 m2) :=
  ⟨PEw (pe_cmpR ho ha.p hb.p hm) fun _ _ _ q => opD h q⟩
def asB : D → M Bool
  | .bl b => pure b
  | _ => stuck
theorem tT_of {m : M D} {t : TE} {σ : L2.St} {H : Hp} {Q : Bool → Hp → Prop} (hq : tT W Wx ρ (b1 asB m) σ H Q) (k : ∀ σ H Q, tE W Wx ρ m σ H Q → t σ H Q) : tTest t σ H Q := by
  obtain ⟨B, μ, F, g, a, q⟩ := hq
  refine k _ _ _ ⟨B, μ, F, g, a, (Run.bind q fun _ z => z).mono (fun _ z => z) fun d g1 μ1 F1 H1 f1 r1 q1 v p => ?_⟩
  have a1 := a.fu f1 (fun _ z => z) r1
  cases p with
  | bl b => exact ⟨b, rfl, Run.pure q1 a1.gd a1.rg⟩
  | _ => exact q1.elim
theorem pt_cmp {op : CmpOp} {r : R2} {f : D → D → M D} {a b : Expr} {m1 m2 : M D} {pos : Pos} (ho : OpR X (compareOp op) r) (h : OpD W r f) (ha : PDe X W Wx a ρ m1) (hb : PDe X W Wx b ρ m2) (hm : behindInMarks op b = false) : PDt X W Wx (.Compare a [op] [b] pos) ρ (b1 asB (b2 f m1 m2)) :=
  ⟨PTw (pt_cmpR ho ha.p hb.p hm) fun _ _ _ q => tT_of q fun _ _ _ q => opD h q⟩
theorem pt_val {e : Expr} {m : M D} (h : PDe X W Wx e ρ m) (he : ∀ whole, isTrue e X.env whole = (do let v ← whole; standAt e.pos; holding [v] (truthy v)) := by intro _; rfl) : PDt X W Wx e ρ (b1 asB m) :=
  ⟨PTw (L2.pt_val h.p he) fun _ _ _ q => tT_of q fun _ _ _ q => q⟩
theorem pd_var (i : Nat) {x : Str} {d : D} {pos : Pos} (hr : ρ[i]? = some (.d d) := by rfl) (hN : X.N[i]? = some x := by rfl) (hv : Vis X.env.scope x := by first | exact Or.inl rfl | exact Or.inr (Or.inl rfl) | exact Or.inr (Or.inr rfl))
    (hd : (x == ("__debug__" : Str)) = false := by decide) (hcd : (x == ("__classdict__" : Str)) = false := by decide) : PDe X W Wx (.Name x pos) ρ (pure d) :=
  ⟨PEw (pe_var hN hv hd hcd) fun σ H Q ⟨B, μ, F, g, a, q⟩ => by
    have hl : i < σ.length := by rw [← a.rel.len]; exact (List.getElem?_eq_some_iff.mp hr).1
    obtain ⟨v, e, p⟩ := a.rel.at_ i _ _ hr (List.getElem?_eq_getElem hl)
    exact ⟨v, by rw [List.getElem?_eq_getElem hl, e], Run.pure q a.gd a.rg v p⟩⟩
theorem pd_c {e : Expr} {v : V} {d : D} (h : PE X e (tC v)) (k : ∀ μ F, Rep W μ F d v) : PDe X W Wx e ρ (pure d) := ⟨PEw h fun σ H Q ⟨B, μ, F, g, a, q⟩ => Run.pure q a.gd a.rg v (k μ F)⟩
theorem pd_int {i : Int} {j : Nat} {pos : Pos} : PDe X W Wx (.Constant (.int i) j pos) ρ (pure (.int i)) := pd_c pe_int fun _ _ => .int i
theorem pd_bl {b : Bool} {j : Nat} {pos : Pos} : PDe X W Wx (.Constant (.bool b) j pos) ρ (pure (.bl b)) := pd_c pe_bl fun _ _ => .bl b
theorem pd_non {j : Nat} {pos : Pos} : PDe X W Wx (.Constant .none j pos) ρ (pure .non) := pd_c pe_non fun _ _ => .non
theorem pd_str {x : Str} {j : Nat} {pos : Pos} : PDe X W Wx (.Constant (.str x) j pos) ρ (pure (.str x)) := pd_c pe_str fun _ _ => .str x
theorem pd_gstr {x z : Str} {t : Tok} {pos : Pos} (hm : X.mg x = some (.str z t)) (hg : Gl X x := by rfl) (hd : (x == ("__debug__" : Str)) = false := by decide) : PDe X W Wx (.Name x pos) ρ (pure (.str z)) := pd_c (pe_glob (v := .str z) hg hm ⟨t, rfl⟩ hd) fun _ _ => .str z
theorem pd_gint {x : Str} {i : Int} {t : Tok} {pos : Pos} (hm : X.mg x = some (.int i t)) (hg : Gl X x := by rfl) (hd : (x == ("__debug__" : Str)) = false := by decide) : PDe X W Wx (.Name x pos) ρ (pure (.int i)) := pd_c (pe_glob (v := .int i) hg hm ⟨t, rfl⟩ hd) fun _ _ => .int i
def dI2 (f : Int → Int → M D) : D → D → M D
  | .int i, .int j => f i j
  | _, _ => stuck
def dSub : D → D → M D := dI2 fun i j => pure (.int (i - j))
def dMul : D → D → M D := dI2 fun i j => if (-(2 ^ 64) < i ∧ i < 2 ^ 64) ∨ (-(2 ^ 64) < j ∧ j < 2 ^ 64) then pure (.int (i * j)) else stuck
def dDiv : D → D → M D := dI2 fun i j => if 0 < j ∧ j < 1073741824 then pure (.int (i / j)) else stuck
def dMod : D → D → M D := dI2 fun i j => if 0 < j then pure (.int (i % j)) else stuck
def dPow : D → D → M D := dI2 fun i j => if 0 ≤ j ∧ j ≤ 1000000 ∧ i.natAbs < 2 ^ 64 then pure (.int (i ^ j.toNat)) else stuck
theorem opI {C : Int → Int → Prop} {gv : Int → Int → V} {f : Int → Int → M D} (h : ∀ i j B μ F H g (Q : VK) Wx n, Guard B F H → RG W g μ F H → Run W Wx n B μ F H (f i j g) (fun d _ μ' F' H' => ∀ v, Rep W μ' F' d v → Q v H') → C i j ∧ Q (gv i j) H) : OpD W (rI C gv) (dI2 f) := by
  intro B μ F H g x y dx dy Q Wx n gd rg px py q
  cases px <;> cases py <;> first | exact q.elim | (obtain ⟨q1, q2⟩ := h _ _ B μ F H g Q Wx n gd rg q; exact ⟨_, _, rfl, rfl, q1, q2⟩)
theorem opIf {C C' : Int → Int → Prop} [∀ i j, Decidable (C' i j)] {gi : Int → Int → Int} (hc : ∀ i j, C' i j → C i j) : OpD W (rI C fun i j => .int (gi i j)) (dI2 fun i j => if C' i j then pure (.int (gi i j)) else stuck) := opI fun i j B μ F H g Q Wx n gd rg q => by
  by_cases c : C' i j
  · rw [if_pos c] at q
    exact ⟨hc i j c, Run.pure q gd rg _ (.int _)⟩
  · rw [if_neg c] at q
    exact q.elim
theorem opD_mul : OpD W (rI CMul fun i j => .int (i * j)) dMul := opIf fun _ _ h => h
theorem opD_div : OpD W (rI CDiv fun i j => .int (i / j)) dDiv := opIf fun _ _ h => h
theorem opD_mod : OpD W (rI (fun _ j => 0 < j) fun i j => .int (i % j)) dMod := opIf fun _ _ h => h
theorem opD_pow : OpD W (rI CPow fun i j => .int (i ^ j.toNat)) dPow := opIf fun _ _ h => h
theorem opD_sub : OpD W (rI0 fun i j => .int (i - j)) dSub := by
  intro B μ F H g x y dx dy Q Wx n gd rg px py q
  cases px <;> cases py <;> first | exact q.elim | exact ⟨_, _, rfl, rfl, Run.pure q gd rg _ (.int _)⟩
theorem pd_sub {a b : Expr} {m1 m2 : M D} {pos : Pos} (ha : PDe X W Wx a ρ m1) (hb : PDe X W Wx b ρ m2) : PDe X W Wx (.BinOp a .Sub b pos) ρ (b2 dSub m1 m2) := pd_op op_sub opD_sub ha hb
theorem pd_mul {a b : Expr} {m1 m2 : M D} {pos : Pos} (ha : PDe X W Wx a ρ m1) (hb : PDe X W Wx b ρ m2) : PDe X W Wx (.BinOp a .Mult b pos) ρ (b2 dMul m1 m2) := pd_op op_mul opD_mul ha hb
theorem pd_div {a b : Expr} {m1 m2 : M D} {pos : Pos} (ha : PDe X W Wx a ρ m1) (hb : PDe X W Wx b ρ m2) : PDe X W Wx (.BinOp a .FloorDiv b pos) ρ (b2 dDiv m1 m2) := pd_op op_fdiv opD_div ha hb
theorem pd_mod {a b : Expr} {m1 m2 : M D} {pos : Pos} (ha : PDe X W Wx a ρ m1) (hb : PDe X W Wx b ρ m2) : PDe X W Wx (.BinOp a .Mod b pos) ρ (b2 dMod m1 m2) := pd_op op_mod opD_mod ha hb
theorem pd_pow {a b : Expr} {m1 m2 : M D} {pos : Pos} (ha : PDe X W Wx a ρ m1) (hb : PDe X W Wx b ρ m2) : PDe X W Wx (.BinOp a .Pow b pos) ρ (b2 dPow m1 m2) := pd_op op_pow opD_pow ha hb
def dNeg : D → M D
  | .int i => pure (.int (-i))
  | _ => stuck
theorem pd_neg {a : Expr} {m : M D} {pos : Pos} (ha : PDe X W Wx a ρ m) : PDe X W Wx (.UnaryOp .USub a pos) ρ (b1 dNeg m) :=
  ⟨PEw (pe_un un_neg ha.p) fun σ H Q ⟨B, μ, F, g, a, q⟩ => ⟨B, μ, F, g, a, (Run.bind q fun _ z => z).mono (fun _ z => z) fun d g1 μ1 F1 H1 f1 r1 q1 v p => by
    have a1 := a.fu f1 (fun _ z => z) r1
    cases p <;> first | exact q1.elim | exact ⟨_, rfl, Run.pure q1 a1.gd a1.rg _ (.int _)⟩⟩⟩
def dAdd : D → D → M D
  | .int i, .int j => pure (.int (i + j))
  | .str x, .str y => if x.length + y.length ≤ sizeLine then pure (.str (x ++ y)) else stuck
  | .tup xs, .tup ys => if xs.length + ys.length ≤ sizeLine then pure (.tup (xs ++ ys)) else stuck
  | .lst xs, .lst ys => if xs.length + ys.length ≤ sizeLine then pure (.lst (xs ++ ys)) else stuck
  | _, _ => stuck
theorem Fu.laid {B : Addr → Prop} {μ : List Addr} {F H : Hp} {p : Addr} {o : HO} (gd : Guard B F H) (sub : Same F H) (hp : H p = none) : Fu B μ F H μ (upd F p o) (upd H p o) where
  grow := .refl
  new := fun _ _ _ h => .inl h
  fro := fun b u e => by
    rw [upd_ne (ne_of_none (sub _ _ e) hp)]
    exact e
  keep := fun a u _ e _ => by
    rw [upd_ne (ne_of_none e hp)]
    exact e
  out := fun a z => by
    have ne : a ≠ p := fun q => (gd a z).2 (by rw [q]; exact hp)
    rw [upd_ne ne]
    exact (gd a z).1
  stay := fun a z => by
    by_cases hb : a = p
    · subst hb
      rw [upd_same]
      simp
    · rw [upd_ne hb]
      exact z
theorem MoAt.fu {μ μ' : List Addr} {F F' H H' : Hp} {a : Addr} {o : MO} (gr : Grow μ μ') (fro : Same F F') (ke : ∀ u, H a = some u → H' a = some u) (h : MoAt W μ F H a o) : MoAt W μ' F' H' a o := by
  cases o with
  | lst xs =>
    obtain ⟨vs, e, r⟩ := h
    exact ⟨vs, ke _ e, r.mono gr fro⟩
  | ins c fs =>
    obtain ⟨dx, ws, e, r⟩ := h
    exact ⟨dx, ws, ke _ e, r.mono gr fro⟩
theorem MoAt.there {μ : List Addr} {F H : Hp} {a : Addr} {o : MO} (h : MoAt W μ F H a o) : H a ≠ none := by
  cases o with
  | lst xs =>
    obtain ⟨vs, e, r⟩ := h
    rw [e]
    simp
  | ins c fs =>
    obtain ⟨dx, ws, e, r⟩ := h
    rw [e]
    simp
theorem RG.there {g : GS} {μ : List Addr} {F H : Hp} (rg : RG W g μ F H) {n : Nat} {a : Addr} (h : μ[n]? = some a) : H a ≠ none := by
  have hl : n < g.length := by
    rw [← rg.len]
    exact (List.getElem?_eq_some_iff.mp h).1
  exact (rg.at_ n a _ h (List.getElem?_eq_getElem hl)).there
theorem RG.laid {g : GS} {μ : List Addr} {F H : Hp} {p : Addr} {o : HO} (rg : RG W g μ F H) (hp : H p = none) : RG W g μ (upd F p o) (upd H p o) where
  sub := fun b u e => by
    by_cases hb : b = p
    · subst hb
      rw [upd_same] at e ⊢
      exact e
    · rw [upd_ne hb] at e ⊢
      exact rg.sub b u e
  len := rg.len
  nd := rg.nd
  out := fun n a e => by
    have ne : a ≠ p := fun q => rg.there e (by rw [q]; exact hp)
    rw [upd_ne ne]
    exact rg.out n a e
  at_ := fun n a u e e2 => by
    have fr : Same F (upd F p o) := fun b z q => by
      rw [upd_ne (ne_of_none (rg.sub _ _ q) hp)]
      exact q
    exact (rg.at_ n a u e e2).fu .refl fr fun z q => by
      rw [upd_ne (ne_of_none q hp)]
      exact q
theorem Run.laid {n : Nat} {B : Addr → Prop} {μ : List Addr} {F H : Hp} {g : GS} {d : D} {p : Addr} {o : HO} {Q : D → GS → List Addr → Hp → Hp → Prop} (q : Run W Wx n B μ F H ((Pure.pure d : M D) g) Q) (gd : Guard B F H) (rg : RG W g μ F H) (hp : H p = none) : Q d g μ (upd F p o) (upd H p o) :=
  q μ _ _ (Fu.laid gd rg.sub hp) (rg.laid hp)
theorem Same.upd' {F : Hp} {p : Addr} {o : HO} {H : Hp} (sub : Same F H) (hp : H p = none) : Same F (upd F p o) := fun b z q => by
  rw [upd_ne (ne_of_none (sub _ _ q) hp)]
  exact q
theorem Rep.newTup {μ : List Addr} {F H : Hp} {p : Addr} {o : Obj} {ds : List D} {vs : List V} (ho : o.dict = none) (sub : Same F H) (hp : H p = none) (r : Reps W μ F ds vs) : Rep W μ (upd F p (.frz o (.tup vs))) (.tup ds) (.ref p) := .tup (.inl ⟨o, upd_same, ho⟩) (r.mono .refl (Same.upd' sub hp))
theorem Rep.newLst {μ : List Addr} {F H : Hp} {p : Addr} {ds : List D} {vs : List V} (sub : Same F H) (hp : H p = none) (r : Reps W μ F ds vs) : Rep W μ (upd F p (.lst vs)) (.lst ds) (.ref p) := .lst upd_same (r.mono .refl (Same.upd' sub hp))
def rAddAll (K : PySem.W.Frag) : R2 := fun x y H Q => rI0 (fun i j => .int (i + j)) x y H Q ∨ (∃ i j, x = .str i ∧ y = .str j ∧ i.length + j.length ≤ sizeLine ∧ Q (.str (i ++ j)) H) ∨ rCatZ K x y H Q ∨ rCat x y H Q
theorem op_addAll : OpR X (binaryOp .Add) (rAddAll X.K) := op_add.or (op_add_str.or (op_catZ.or op_cat))
theorem opD_add : OpD W (rAddAll W.K) dAdd := by
  intro B μ F H g x y dx dy Q Wx n gd rg px py q
  cases px with
  | int i => cases py <;> first | exact q.elim | exact .inl ⟨_, _, rfl, rfl, Run.pure q gd rg _ (.int _)⟩
  | str i =>
    cases py with
    | str j =>
      have q' : Run W Wx n B μ F H ((if i.length + j.length ≤ sizeLine then pure (.str (i ++ j)) else stuck : M D) g) (fun d _ μ' F' H' => ∀ v, Rep W μ' F' d v → Q v H') := q
      by_cases c : i.length + j.length ≤ sizeLine
      · rw [if_pos c] at q'
        exact .inr (.inl ⟨_, _, rfl, rfl, c, Run.pure q' gd rg _ (.str _)⟩)
      · rw [if_neg c] at q'
        exact q'.elim
    | _ => exact q.elim
  | @tup a vs ds h r =>
    cases py with
    | @tup b ws es h2 r2 =>
      have q' : Run W Wx n B μ F H ((if ds.length + es.length ≤ sizeLine then pure (.tup (ds ++ es)) else stuck : M D) g) (fun d _ μ' F' H' => ∀ v, Rep W μ' F' d v → Q v H') := q
      by_cases c : ds.length + es.length ≤ sizeLine
      · rw [if_pos c] at q'
        have l1 := r.length
        have l2 := r2.length
        refine .inr (.inr (.inl ⟨a, b, vs, ws, rfl, rfl, Same.tup rg.sub h.sq, Same.tup rg.sub h2.sq, by rw [← l1, ← l2]; exact c, fun z => ?_, fun _ z => ?_, fun _ _ p o hp ho => ?_⟩))
        · subst z
          cases r
          exact Run.pure q' gd rg _ (.tup h2 r2)
        · subst z
          cases r2
          rw [List.append_nil] at q'
          exact Run.pure q' gd rg _ (.tup h r)
        · exact Run.laid q' gd rg hp _ (.newTup ho rg.sub hp (r.append r2))
      · rw [if_neg c] at q'
        exact q'.elim
    | _ => exact q.elim
  | @lst a vs ds h r =>
    cases py with
    | @lst b ws es h2 r2 =>
      have q' : Run W Wx n B μ F H ((if ds.length + es.length ≤ sizeLine then pure (.lst (ds ++ es)) else stuck : M D) g) (fun d _ μ' F' H' => ∀ v, Rep W μ' F' d v → Q v H') := q
      by_cases c : ds.length + es.length ≤ sizeLine
      · rw [if_pos c] at q'
        have l1 := r.length
        have l2 := r2.length
        refine .inr (.inr (.inr ⟨a, b, vs, ws, rfl, rfl, rg.sub _ _ h, rg.sub _ _ h2, by rw [← l1, ← l2]; exact c, fun p hp => ?_⟩))
        exact Run.laid q' gd rg hp _ (.newLst rg.sub hp (r.append r2))
      · rw [if_neg c] at q'
        exact q'.elim
    | _ => exact q.elim
  | _ => exact q.elim
theorem pd_add (hK : W.K = X.K) {a b : Expr} {m1 m2 : M D} {pos : Pos} (ha : PDe X W Wx a ρ m1) (hb : PDe X W Wx b ρ m2) : PDe X W Wx (.BinOp a .Add b pos) ρ (b2 dAdd m1 m2) := pd_op op_addAll (hK ▸ opD_add) ha hb
def dCmp (fi : Int → Int → Bool) (fs : Str → Str → Bool) : D → D → M D
  | .int i, .int j => pure (.bl (fi i j))
  | .str x, .str y => pure (.bl (fs x y))
  | _, _ => stuck
def strLt (x y : Str) : Bool := decide (x.cps.toList < y.cps.toList)
def dLt : D → D → M D := dCmp (fun i j => decide (i < j)) strLt
def dGt : D → D → M D := dCmp (fun i j => decide (j < i)) fun x y => strLt y x
def dLe : D → D → M D := dCmp (fun i j => decide (i ≤ j)) fun x y => !strLt y x
def dGe : D → D → M D := dCmp (fun i j => decide (j ≤ i)) fun x y => !strLt x y
def rCmpA (fi : Int → Int → Bool) (fs : Str → Str → Bool) : R2 := fun x y H Q => rI0 (fun i j => .bl (fi i j)) x y H Q ∨ ∃ i j, x = .str i ∧ y = .str j ∧ Q (.bl (fs i j)) H
theorem opD_cmp {fi : Int → Int → Bool} {fs : Str → Str → Bool} : OpD W (rCmpA fi fs) (dCmp fi fs) := by
  intro B μ F H g x y dx dy Q Wx n gd rg px py q
  cases px with
  | int i => cases py <;> first | exact q.elim | exact .inl ⟨_, _, rfl, rfl, Run.pure q gd rg _ (.bl _)⟩
  | str i => cases py <;> first | exact q.elim | exact .inr ⟨_, _, rfl, rfl, Run.pure q gd rg _ (.bl _)⟩
  | _ => exact q.elim
theorem op_ltA : OpR X (compareOp .Lt) (rCmpA (fun i j => decide (i < j)) strLt) := op_lt.or op_lt_str
theorem op_gtA : OpR X (compareOp .Gt) (rCmpA (fun i j => decide (j < i)) fun x y => strLt y x) := op_gt.or op_gt_str
theorem op_leA : OpR X (compareOp .LtE) (rCmpA (fun i j => decide (i ≤ j)) fun x y => !strLt y x) := op_le.or op_le_str
theorem op_geA : OpR X (compareOp .GtE) (rCmpA (fun i j => decide (j ≤ i)) fun x y => !strLt x y) := op_ge.or op_ge_str
section
variable {a b : Expr} {m1 m2 : M D} {pos : Pos}
theorem pd_lt (ha : PDe X W Wx a ρ m1) (hb : PDe X W Wx b ρ m2) : PDe X W Wx (.Compare a [.Lt] [b] pos) ρ (b2 dLt m1 m2) := pd_cmp op_ltA opD_cmp ha hb (nomark _)
theorem pd_gt (ha : PDe X W Wx a ρ m1) (hb : PDe X W Wx b ρ m2) : PDe X W Wx (.Compare a [.Gt] [b] pos) ρ (b2 dGt m1 m2) := pd_cmp op_gtA opD_cmp ha hb (nomark _)
theorem pd_le (ha : PDe X W Wx a ρ m1) (hb : PDe X W Wx b ρ m2) : PDe X W Wx (.Compare a [.LtE] [b] pos) ρ (b2 dLe m1 m2) := pd_cmp op_leA opD_cmp ha hb (nomark _)
theorem pd_ge (ha : PDe X W Wx a ρ m1) (hb : PDe X W Wx b ρ m2) : PDe X W Wx (.Compare a [.GtE] [b] pos) ρ (b2 dGe m1 m2) := pd_cmp op_geA opD_cmp ha hb (nomark _)
theorem pt_lt (ha : PDe X W Wx a ρ m1) (hb : PDe X W Wx b ρ m2) : PDt X W Wx (.Compare a [.Lt] [b] pos) ρ (b1 asB (b2 dLt m1 m2)) := pt_cmp op_ltA opD_cmp ha hb (nomark _)
theorem pt_gt (ha : PDe X W Wx a ρ m1) (hb : PDe X W Wx b ρ m2) : PDt X W Wx (.Compare a [.Gt] [b] pos) ρ (b1 asB (b2 dGt m1 m2)) := pt_cmp op_gtA opD_cmp ha hb (nomark _)
theorem pt_le (ha : PDe X W Wx a ρ m1) (hb : PDe X W Wx b ρ m2) : PDt X W Wx (.Compare a [.LtE] [b] pos) ρ (b1 asB (b2 dLe m1 m2)) := pt_cmp op_leA opD_cmp ha hb (nomark _)
theorem pt_ge (ha : PDe X W Wx a ρ m1) (hb : PDe X W Wx b ρ m2) : PDt X W Wx (.Compare a [.GtE] [b] pos) ρ (b1 asB (b2 dGe m1 m2)) := pt_cmp op_geA opD_cmp ha hb (nomark _)
end
def D.scal : D → Bool
  | .non => true
  | .bl _ => true
  | .int _ => true
  | .str _ => true
  | _ => false
def D.eqv (x y : D) : Bool := PyData.eqv x.py y.py
def D.cok (x y : D) : Bool := x.dat && y.dat && SeqAt.mixOk x.py y.py && decide (x.py.depth ≤ 40)
theorem D.cok_of {x y : D} (h : D.cok x y = true) : x.dat = true ∧ y.dat = true ∧ SeqAt.mixOk x.py y.py = true ∧ x.py.depth ≤ 40 := by
  unfold D.cok at h
  simp only [Bool.and_eq_true, decide_eq_true_eq] at h
  exact ⟨h.1.1.1, h.1.1.2, h.1.2, h.2⟩
def dEq (x y : D) : M D := if D.cok x y = true then pure (.bl (D.eqv x y)) else stuck
def dNe (x y : D) : M D := if D.cok x y = true then pure (.bl (!D.eqv x y)) else stuck
theorem D.flat_of {x : D} (h : x.flat = true) : x.dat = true ∧ x.py.plain = true ∧ x.py.depth ≤ 40 := by
  unfold D.flat at h
  simp only [Bool.and_eq_true, decide_eq_true_eq] at h
  exact ⟨h.1.1, h.1.2, h.2⟩
def rDat (W : Wd) (f : PyData → PyData → Bool) : R2 := fun x y H Q => ∃ μ F dx dy, Same F H ∧ Rep W μ F dx x ∧ Rep W μ F dy y ∧ D.cok dx dy = true ∧ Q (.bl (f dx.py dy.py)) H
theorem op_eqA (hK : W.K = X.K) (hu : X.A.units + 64 < cLine) : OpR X (compareOp .Eq) (rDat W PyData.eqv) := by
  intro pins s σ H x y v u Q I rx ry h
  obtain ⟨μ, F, dx, dy, sub, px, py, ok, q⟩ := h
  obtain ⟨d1, d2, mk, n1⟩ := D.cok_of ok
  exact SeqAt.eq_mix (px.rdm I sub hK d1 rx) (py.rdm I sub hK d2 ry) mk (by omega) ⟨.bl _, H, I, rfl, q⟩
theorem op_neA (hK : W.K = X.K) (hu : X.A.units + 64 < cLine) : OpR X (compareOp .NotEq) (rDat W fun a b => !PyData.eqv a b) := by
  intro pins s σ H x y v u Q I rx ry h
  obtain ⟨μ, F, dx, dy, sub, px, py, ok, q⟩ := h
  obtain ⟨d1, d2, mk, n1⟩ := D.cok_of ok
  exact SeqAt.ne_mix (px.rdm I sub hK d1 rx) (py.rdm I sub hK d2 ry) mk (by omega) ⟨.bl _, H, I, rfl, q⟩
theorem opD_dat {f : PyData → PyData → Bool} : OpD W (rDat W f) fun x y => if D.cok x y = true then pure (.bl (f x.py y.py)) else stuck := by
  intro B μ F H g x y dx dy Q Wx n gd rg px py q
  by_cases c : D.cok dx dy = true
  · simp only [if_pos c] at q
    exact ⟨μ, F, dx, dy, rg.sub, px, py, c, Run.pure q gd rg _ (.bl _)⟩
  · simp only [if_neg c] at q
    exact q.elim
section
variable {a b : Expr} {m1 m2 : M D} {pos : Pos} {k : Nat}
theorem pd_eq (hK : W.K = X.K) (bd : Bd X k) (ha : PDe X W Wx a ρ m1) (hb : PDe X W Wx b ρ m2) : PDe X W Wx (.Compare a [.Eq] [b] pos) ρ (b2 dEq m1 m2) := pd_cmp (op_eqA hK bd.rm.units) opD_dat ha hb (nomark _)
theorem pd_ne (hK : W.K = X.K) (bd : Bd X k) (ha : PDe X W Wx a ρ m1) (hb : PDe X W Wx b ρ m2) : PDe X W Wx (.Compare a [.NotEq] [b] pos) ρ (b2 dNe m1 m2) := pd_cmp (op_neA hK bd.rm.units) opD_dat ha hb (nomark _)
theorem pt_eq (hK : W.K = X.K) (bd : Bd X k) (ha : PDe X W Wx a ρ m1) (hb : PDe X W Wx b ρ m2) : PDt X W Wx (.Compare a [.Eq] [b] pos) ρ (b1 asB (b2 dEq m1 m2)) := pt_cmp (op_eqA hK bd.rm.units) opD_dat ha hb (nomark _)
theorem pt_ne (hK : W.K = X.K) (bd : Bd X k) (ha : PDe X W Wx a ρ m1) (hb : PDe X W Wx b ρ m2) : PDt X W Wx (.Compare a [.NotEq] [b] pos) ρ (b1 asB (b2 dNe m1 m2)) := pt_cmp (op_neA hK bd.rm.units) opD_dat ha hb (nomark _)
end
def dIsN : D → M D
  | .non => pure (.bl true)
  | _ => pure (.bl false)
theorem rep_non {μ : List Addr} {F : Hp} {d : D} {v : V} (p : Rep W μ F d v) : dIsN d = pure (.bl (decide (v = .non))) := by
  cases p <;> rfl
section
variable {a : Expr} {m : M D} {pos pos' : Pos} {j : Nat}
theorem tIsN_D {σ : L2.St} {H : Hp} {Q : VK} (q : tE W Wx ρ (b1 dIsN m) σ H Q) : tIsN (tE W Wx ρ m) σ H Q := by
  obtain ⟨B, μ, F, g, a, q⟩ := q
  exact ⟨B, μ, F, g, a, (Run.bind q fun _ z => z).mono (fun _ z => z) fun d g1 μ1 F1 H1 f1 r1 q1 v p => by
    have a1 := a.fu f1 (fun _ z => z) r1
    rw [rep_non p] at q1
    exact Run.pure q1 a1.gd a1.rg _ (.bl _)⟩
def dNotN : D → M D
  | .non => pure (.bl false)
  | _ => pure (.bl true)
theorem rep_nonN {μ : List Addr} {F : Hp} {d : D} {v : V} (p : Rep W μ F d v) : dNotN d = pure (.bl (!decide (v = .non))) := by
  cases p <;> rfl
theorem tNotN_D {σ : L2.St} {H : Hp} {Q : VK} (q : tE W Wx ρ (b1 dNotN m) σ H Q) : tNotN (tE W Wx ρ m) σ H Q := by
  obtain ⟨B, μ, F, g, a, q⟩ := q
  exact ⟨B, μ, F, g, a, (Run.bind q fun _ z => z).mono (fun _ z => z) fun d g1 μ1 F1 H1 f1 r1 q1 v p => by
    have a1 := a.fu f1 (fun _ z => z) r1
    rw [rep_nonN p] at q1
    exact Run.pure q1 a1.gd a1.rg _ (.bl _)⟩
theorem pd_isN (ha : PDe X W Wx a ρ m) : PDe X W Wx (.Compare a [.Is] [.Constant .none j pos'] pos) ρ (b1 dIsN m) := ⟨PEw (pe_cmp (pc_isN ha.p) (nomark _)) fun _ _ _ q => tIsN_D q⟩
theorem pd_notN (ha : PDe X W Wx a ρ m) : PDe X W Wx (.Compare a [.IsNot] [.Constant .none j pos'] pos) ρ (b1 dNotN m) := ⟨PEw (pe_cmp (pc_notN ha.p) (nomark _)) fun _ _ _ q => tNotN_D q⟩
theorem pt_isN (ha : PDe X W Wx a ρ m) : PDt X W Wx (.Compare a [.Is] [.Constant .none j pos'] pos) ρ (b1 asB (b1 dIsN m)) := ⟨PTw (L2.pt_cmp (pc_isN ha.p) (nomark _)) fun _ _ _ q => tT_of q fun _ _ _ q => tIsN_D q⟩
theorem pt_notN (ha : PDe X W Wx a ρ m) : PDt X W Wx (.Compare a [.IsNot] [.Constant .none j pos'] pos) ρ (b1 asB (b1 dNotN m)) := ⟨PTw (L2.pt_cmp (pc_notN ha.p) (nomark _)) fun _ _ _ q => tT_of q fun _ _ _ q => tNotN_D q⟩
end
def mAnd (m k : M Bool) : M Bool := m >>= fun c => if c = true then k else pure false
def mOr (m k : M Bool) : M Bool := m >>= fun c => if c = true then pure true else k
def mNot (m : M Bool) : M Bool := m >>= fun c => pure (!c)
def mIf {α : Type} (c : M Bool) (m k : M α) : M α := c >>= fun c => if c = true then m else k
section
variable {a b c : Expr} {rest : List Expr} {m k l : M Bool} {pos : Pos}
theorem pw_and1 (ha : PDt X W Wx a ρ m) : PDw X W Wx (.BoolOp .And [a] pos) ρ m := ⟨L2.pw_and1 ha.p⟩
theorem pw_or1 (ha : PDt X W Wx a ρ m) : PDw X W Wx (.BoolOp .Or [a] pos) ρ m := ⟨L2.pw_or1 ha.p⟩
theorem bindT {β : Type} {σ : L2.St} {H : Hp} {f : Bool → M β} {m : M Bool} {B : Addr → Prop} {μ : List Addr} {F : Hp} {g : GS} {P : β → GS → List Addr → Hp → Hp → Prop} (a : At W B μ F H g ρ σ) (q : Run W Wx σ.length B μ F H ((m >>= f) g) P) {Q : Bool → Hp → Prop}
    (k : ∀ c μ1 F1 H1 g1, At W B μ1 F1 H1 g1 ρ σ → Run W Wx σ.length B μ1 F1 H1 (f c g1) P → Q c H1) : tT W Wx ρ m σ H Q :=
  ⟨B, μ, F, g, a, (Run.bind q fun _ z => z).mono (fun _ z => z) fun c g1 μ1 F1 H1 f1 r1 q1 => k c μ1 F1 H1 g1 (a.fu f1 (fun _ z => z) r1) q1⟩
theorem pw_and (ha : PDt X W Wx a ρ m) (hb : PDw X W Wx (.BoolOp .And (b :: rest) pos) ρ k) : PDw X W Wx (.BoolOp .And (a :: b :: rest) pos) ρ (mAnd m k) :=
  ⟨PWw (L2.pw_and ha.p hb.p) fun σ H Q ⟨B, μ, F, g, a, q⟩ => bindT a q fun c μ1 F1 H1 g1 a1 q1 => by
    cases c with
    | true => exact (⟨B, μ1, F1, g1, a1, q1⟩ : tT W Wx ρ k σ H1 Q)
    | false => exact Run.pure q1 a1.gd a1.rg⟩
theorem pw_or (ha : PDt X W Wx a ρ m) (hb : PDw X W Wx (.BoolOp .Or (b :: rest) pos) ρ k) : PDw X W Wx (.BoolOp .Or (a :: b :: rest) pos) ρ (mOr m k) :=
  ⟨PWw (L2.pw_or ha.p hb.p) fun σ H Q ⟨B, μ, F, g, a, q⟩ => bindT a q fun c μ1 F1 H1 g1 a1 q1 => by
    cases c with
    | false => exact (⟨B, μ1, F1, g1, a1, q1⟩ : tT W Wx ρ k σ H1 Q)
    | true => exact Run.pure q1 a1.gd a1.rg⟩
theorem pt_w {e : Expr} (h : PDw X W Wx e ρ m) : PDt X W Wx e ρ m := ⟨h.p.pt⟩
theorem pt_not (ha : PDt X W Wx a ρ m) : PDt X W Wx (.UnaryOp .Not a pos) ρ (mNot m) :=
  ⟨PTw (L2.pt_not ha.p) fun σ H Q ⟨B, μ, F, g, a, q⟩ => bindT a q fun c μ1 F1 H1 g1 a1 q1 => Run.pure q1 a1.gd a1.rg⟩
def vAnd (m k : M D) : M D := b1 asB m >>= fun c => if c = true then k else pure (.bl false)
def vOr (m k : M D) : M D := b1 asB m >>= fun c => if c = true then pure (.bl true) else k
def vNot (m : M D) : M D := b1 asB m >>= fun c => pure (.bl (!c))
variable {mv kv : M D}
theorem bindV {β : Type} {σ : L2.St} {H : Hp} {f : Bool → M β} {m : M D} {B : Addr → Prop} {μ : List Addr} {F : Hp} {g : GS} {P : β → GS → List Addr → Hp → Hp → Prop} (a : At W B μ F H g ρ σ) (q : Run W Wx σ.length B μ F H ((b1 asB m >>= f) g) P) {Q : VK}
    (k : ∀ c μ1 F1 H1 g1, At W B μ1 F1 H1 g1 ρ σ → Run W Wx σ.length B μ1 F1 H1 (f c g1) P → Q (.bl c) H1) : tE W Wx ρ m σ H Q := by
  have q' : Run W Wx σ.length B μ F H ((m >>= fun d => asB d >>= f) g) P := by
    have e : (b1 asB m >>= f : M β) = m >>= fun d => asB d >>= f := M.bind_assoc m asB f
    rw [e] at q
    exact q
  refine ⟨B, μ, F, g, a, (Run.bind q' fun _ z => z).mono (fun _ z => z) fun d g1 μ1 F1 H1 f1 r1 q1 v p => ?_⟩
  have a1 := a.fu f1 (fun _ z => z) r1
  cases p <;> first | exact q1.elim | exact k _ μ1 F1 H1 g1 a1 q1
theorem pd_one {op : BoolOp} (ha : PDe X W Wx a ρ mv) : PDe X W Wx (.BoolOp op [a] pos) ρ mv := ⟨pe_one ha.p⟩
theorem pd_and (ha : PDe X W Wx a ρ mv) (hb : PDe X W Wx (.BoolOp .And (b :: rest) pos) ρ kv) : PDe X W Wx (.BoolOp .And (a :: b :: rest) pos) ρ (vAnd mv kv) :=
  ⟨PEw (pe_and ha.p hb.p) fun σ H Q ⟨B, μ, F, g, a, q⟩ => bindV a q fun c μ1 F1 H1 g1 a1 q1 => ⟨c, rfl, by
    cases c with
    | true => exact (⟨B, μ1, F1, g1, a1, q1⟩ : tE W Wx ρ kv σ H1 Q)
    | false => exact Run.pure q1 a1.gd a1.rg _ (.bl _)⟩⟩
theorem pd_or (ha : PDe X W Wx a ρ mv) (hb : PDe X W Wx (.BoolOp .Or (b :: rest) pos) ρ kv) : PDe X W Wx (.BoolOp .Or (a :: b :: rest) pos) ρ (vOr mv kv) :=
  ⟨PEw (pe_or ha.p hb.p) fun σ H Q ⟨B, μ, F, g, a, q⟩ => bindV a q fun c μ1 F1 H1 g1 a1 q1 => ⟨c, rfl, by
    cases c with
    | false => exact (⟨B, μ1, F1, g1, a1, q1⟩ : tE W Wx ρ kv σ H1 Q)
    | true => exact Run.pure q1 a1.gd a1.rg _ (.bl _)⟩⟩
theorem pd_not (ha : PDe X W Wx a ρ mv) : PDe X W Wx (.UnaryOp .Not a pos) ρ (vNot mv) :=
  ⟨PEw (pe_not ha.p) fun σ H Q ⟨B, μ, F, g, a, q⟩ => bindV a q fun c μ1 F1 H1 g1 a1 q1 => ⟨c, rfl, Run.pure q1 a1.gd a1.rg _ (.bl _)⟩⟩
theorem pd_ife (hc : PDt X W Wx c ρ l) (ha : PDe X W Wx a ρ mv) (hb : PDe X W Wx b ρ kv) : PDe X W Wx (.IfExp c a b pos) ρ (mIf l mv kv) :=
  ⟨PEw (pe_ifExp hc.p ha.p hb.p) fun σ H Q ⟨B, μ, F, g, a, q⟩ => bindT a q fun c μ1 F1 H1 g1 a1 q1 => by
    cases c with
    | true => exact (⟨B, μ1, F1, g1, a1, q1⟩ : tE W Wx ρ mv σ H1 Q)
    | false => exact (⟨B, μ1, F1, g1, a1, q1⟩ : tE W Wx ρ kv σ H1 Q)⟩
end
end
end PD
namespace PD
open PySem PySem.Spec L2
open PyProof.Rows hiding St
section
variable {X : Cx} {W : Wd} {Wx : WX} {ρ : Ro}
abbrev Ar : Type 1 := (β : Type) → (List D → M β) → M β
def tK (W : Wd) (Wx : WX) (ρ : Ro) (c : Ar) : TA := fun σ H Q => ∃ (β : Type) (k : List D → M β) (B : Addr → Prop) (μ : List Addr) (F : Hp) (g : GS) (P : β → GS → List Addr → Hp → Hp → Prop), At W B μ F H g ρ σ ∧ Run W Wx σ.length B μ F H (c β k g) P ∧
  ∀ ds vs μ' F' H' g', Fu B μ F H μ' F' H' → At W B μ' F' H' g' ρ σ → Reps W μ' F' ds vs → Run W Wx σ.length B μ' F' H' (k ds g') P → Q vs H'
structure PDa (X : Cx) (W : Wd) (Wx : WX) (es : List Expr) (ρ : Ro) (c : Ar) : Prop where
  p : PA X es (tK W Wx ρ c)
def aNil : Ar := fun _ k => k []
def aCons (m : M D) (c : Ar) : Ar := fun β k => m >>= fun x => c β fun xs => k (x :: xs)
theorem da_nil : PDa X W Wx [] ρ aNil := ⟨PAw pa_nil fun σ H Q ⟨β, k, B, μ, F, g, P, a, q, kk⟩ => kk [] [] μ F H g (.refl a.gd) a .nil q⟩
theorem da_cons {e : Expr} {es : List Expr} {m : M D} {c : Ar} (ha : PDe X W Wx e ρ m) (hr : PDa X W Wx es ρ c) (hs : starEach (e :: es) X.env = (false, eval e X.env) :: starEach es X.env := by rfl) : PDa X W Wx (e :: es) ρ (aCons m c) :=
  ⟨PAw (pa_cons ha.p hr.p hs) fun σ H Q ⟨β, k, B, μ, F, g, P, a, q, kk⟩ => ⟨B, μ, F, g, a, (Run.bind q fun _ z => z).mono (fun _ z => z) fun d g1 μ1 F1 H1 f1 r1 q1 v p =>
    ⟨β, fun xs => k (d :: xs), B, μ1, F1, g1, P, a.fu f1 (fun _ z => z) r1, q1, fun ds vs μ2 F2 H2 g2 f2 a2 rs q2 => kk (d :: ds) (v :: vs) μ2 F2 H2 g2 (f1.trans f2 fun _ z => z) a2 (.cons (p.mono f2.grow f2.fro) rs) q2⟩⟩⟩
theorem tK_of {f : List D → M D} {c : Ar} {σ : L2.St} {H : Hp} {Q : VK} {R : List V → Hp → Prop} (q : tE W Wx ρ (c D f) σ H Q)
    (k : ∀ ds vs B μ F H g, At W B μ F H g ρ σ → Reps W μ F ds vs → Run W Wx σ.length B μ F H (f ds g) (fun d _ μ' F' H' => ∀ v, Rep W μ' F' d v → Q v H') → R vs H) : tK W Wx ρ c σ H R := by
  obtain ⟨B, μ, F, g, a, q⟩ := q
  exact ⟨D, f, B, μ, F, g, _, a, q, fun ds vs μ2 F2 H2 g2 f2 a2 rs q2 => k ds vs B μ2 F2 H2 g2 a2 rs q2⟩
def CallD (W : Wd) (r : List V → Hp → VK → Prop) (f : List D → M D) : Prop := ∀ (B : Addr → Prop) μ F H g ds vs (Q : VK) Wx n, Guard B F H → RG W g μ F H → Reps W μ F ds vs →
  Run W Wx n B μ F H (f ds g) (fun d _ μ' F' H' => ∀ v, Rep W μ' F' d v → Q v H') → r vs H Q
section
variable {r : List V → Hp → VK → Prop} {f : List D → M D} {x : Str} {id T : String} {e : Expr} {es : List Expr} {p pos : Pos} {c : Ar}
theorem pd_callB (hc : CallR X (.builtin id) r) (h : CallD W r f) (hm : X.mg x = none) (ha : PDa X W Wx (e :: es) ρ c) (hg : Gl X x := by rfl) (hv : bootBuiltins x = some (.builtin id) := by decide +kernel) (hn : x ≠ "__name__" := by decide) (hdb : (x == ("__debug__" : Str)) = false := by decide)
    (he : starEach (e :: es) X.env = (false, eval e X.env) :: starEach es X.env := by rfl) (hpl : (backTo pos (starEach es X.env)).any (·.1) = false := by rfl) : PDe X W Wx (.Call (.Name x p) (e :: es) [] pos) ρ (c D f) :=
  ⟨PEw (pe_callB hc hg hm hv ha.p hn hdb he hpl) fun σ H Q q => tK_of q fun ds vs B μ F H g a rs q1 => h B μ F H g ds vs Q Wx _ a.gd a.rg rs q1⟩
theorem pd_callT (hc : CallR X (.type T) r) (h : CallD W r f) (hm : X.mg x = none) (ha : PDa X W Wx (e :: es) ρ c) (hg : Gl X x := by rfl) (hv : bootBuiltins x = some (.type T) := by decide +kernel) (hn : x ≠ "__name__" := by decide) (hdb : (x == ("__debug__" : Str)) = false := by decide)
    (he : starEach (e :: es) X.env = (false, eval e X.env) :: starEach es X.env := by rfl) (hpl : (backTo pos (starEach es X.env)).any (·.1) = false := by rfl) : PDe X W Wx (.Call (.Name x p) (e :: es) [] pos) ρ (c D f) :=
  ⟨PEw (pe_callTy hc hg hm hv ha.p hn hdb he hpl) fun σ H Q q => tK_of q fun ds vs B μ F H g a rs q1 => h B μ F H g ds vs Q Wx _ a.gd a.rg rs q1⟩
end
def dTup (ds : List D) : M D := if ds.length ≤ sizeLine then pure (.tup ds) else stuck
def dLst (ds : List D) : M D := if ds.length ≤ sizeLine then pure (.lst ds) else stuck
theorem pd_tup {es : List Expr} {c : Ar} {k : Nat} {pos : Pos} (h : PDa X W Wx es ρ c) : PDe X W Wx (.Tuple es k pos) ρ (c D dTup) :=
  ⟨PEw (pe_tupZ h.p) fun σ H Q q => tK_of q fun ds vs B μ F H g a rs q1 => by
    have q2 : Run W Wx σ.length B μ F H ((if ds.length ≤ sizeLine then pure (.tup ds) else stuck : M D) g) (fun d _ μ' F' H' => ∀ v, Rep W μ' F' d v → Q v H') := q1
    by_cases hl : ds.length ≤ sizeLine
    · rw [if_pos hl] at q2
      exact ⟨by rw [← rs.length]; exact hl, fun p o hp ho => Run.laid q2 a.gd a.rg hp _ (.newTup ho a.rg.sub hp rs)⟩
    · rw [if_neg hl] at q2
      exact q2.elim⟩
theorem pd_lst {es : List Expr} {c : Ar} {pos : Pos} (h : PDa X W Wx es ρ c) : PDe X W Wx (.List es pos) ρ (c D dLst) :=
  ⟨PEw (pe_lst h.p) fun σ H Q q => tK_of q fun ds vs B μ F H g a rs q1 => by
    have q2 : Run W Wx σ.length B μ F H ((if ds.length ≤ sizeLine then pure (.lst ds) else stuck : M D) g) (fun d _ μ' F' H' => ∀ v, Rep W μ' F' d v → Q v H') := q1
    by_cases hl : ds.length ≤ sizeLine
    · rw [if_pos hl] at q2
      exact ⟨by rw [← rs.length]; exact hl, fun p hp => Run.laid q2 a.gd a.rg hp _ (.newLst a.rg.sub hp rs)⟩
    · rw [if_neg hl] at q2
      exact q2.elim⟩
theorem Fu.own {B : Addr → Prop} {μ : List Addr} {F H : Hp} {p : Addr} {o : HO} (gd : Guard B F H) (hp : H p = none) : Fu B μ F H μ F (upd H p o) where
  grow := .refl
  new := fun _ _ _ h => .inl h
  fro := .refl F
  keep := fun a u _ e _ => by
    rw [upd_ne (ne_of_none e hp)]
    exact e
  out := fun a z => (gd a z).1
  stay := fun a z => by
    by_cases hb : a = p
    · subst hb
      rw [upd_same]
      simp
    · rw [upd_ne hb]
      exact z
theorem RG.own {g : GS} {μ : List Addr} {F H : Hp} {p : Addr} {o : HO} (rg : RG W g μ F H) (hp : H p = none) : RG W g μ F (upd H p o) where
  sub := fun b u e => by
    rw [upd_ne (ne_of_none (rg.sub _ _ e) hp)]
    exact rg.sub b u e
  len := rg.len
  nd := rg.nd
  out := rg.out
  at_ := fun n a u e e2 => (rg.at_ n a u e e2).fu .refl (.refl F) fun z q => by
    rw [upd_ne (ne_of_none q hp)]
    exact q
theorem free_of {F H : Hp} {p : Addr} (sub : Same F H) (hp : H p = none) : F p = none := sub.free hp
theorem Run.ownL {n : Nat} {B : Addr → Prop} {μ : List Addr} {F H : Hp} {g : GS} {ds : List D} {vs : List V} {p : Addr} {Q : List D → GS → List Addr → Hp → Hp → Prop} (q : Run W Wx n B μ F H ((Pure.pure ds : M (List D)) g) Q) (gd : Guard B F H) (rg : RG W g μ F H) (hp : H p = none) : Q ds g μ F (upd H p (.lst vs)) :=
  q μ _ _ (Fu.own gd hp) (rg.own hp)
theorem RG.notin {g : GS} {μ : List Addr} {F H : Hp} {p : Addr} (rg : RG W g μ F H) (hp : H p = none) : ∀ n : Nat, μ[n]? ≠ some p := fun n e => rg.there e hp
theorem stay_none {B : Addr → Prop} {μ μ1 : List Addr} {F F1 H H1 : Hp} (f : Fu B μ F H μ1 F1 H1) {p : Addr} (hp : H1 p = none) : H p = none := by
  cases q : H p with
  | none => rfl
  | some o => exact absurd hp (f.stay p (by rw [q]; simp))
def nLst (ds : List D) : M (List D) := if ds.length ≤ sizeLine then pure ds else stuck
theorem pn_lst {es : List Expr} {c : Ar} {pos : Pos} (h : PDa X W Wx es ρ c) : PDn X W Wx (.List es pos) ρ (c (List D) nLst) :=
  ⟨PEw (pe_lst h.p) fun σ H Q ⟨B, μ, F, g, a, q⟩ => ⟨List D, nLst, B, μ, F, g, _, a, q, fun ds vs μ1 F1 H1 g1 f1 a1 rs q1 => by
    have q2 : Run W Wx σ.length B μ1 F1 H1 ((if ds.length ≤ sizeLine then pure ds else stuck : M (List D)) g1) (fun ds _ μ' F' H' => ∀ l vs, H l = none → H' l = some (.lst vs) → F' l = none → (∀ n : Nat, μ'[n]? ≠ some l) → Reps W μ' F' ds vs → Q (.ref l) H') := q1
    by_cases hl : ds.length ≤ sizeLine
    · rw [if_pos hl] at q2
      refine ⟨by rw [← rs.length]; exact hl, fun p hp => Run.ownL q2 a1.gd a1.rg hp p vs (stay_none f1 hp) upd_same (free_of a1.rg.sub hp) (a1.rg.notin hp) rs⟩
    · rw [if_neg hl] at q2
      exact q2.elim⟩⟩
theorem Fu.froz {B : Addr → Prop} {μ : List Addr} {F H : Hp} {p : Addr} {o : HO} (gd : Guard B F H) (hp : H p = some o) (fp : F p = none) (nB : ¬ B p) : Fu B μ F H μ (upd F p o) H where
  grow := .refl
  new := fun _ _ _ h => .inl h
  fro := fun b u e => by
    rw [upd_ne (ne_of_none e fp)]
    exact e
  keep := fun _ _ _ e _ => e
  out := fun a z => by
    rw [upd_ne (show a ≠ p from fun q => nB (by rw [← q]; exact z))]
    exact (gd a z).1
  stay := fun _ z => z
theorem RG.froz {g : GS} {μ : List Addr} {F H : Hp} {p : Addr} {o : HO} (rg : RG W g μ F H) (hp : H p = some o) (fp : F p = none) (nm : ∀ n : Nat, μ[n]? ≠ some p) : RG W g μ (upd F p o) H where
  sub := fun b u e => by
    by_cases hb : b = p
    · subst hb
      rw [upd_same] at e
      rw [hp]
      exact e
    · rw [upd_ne hb] at e
      exact rg.sub b u e
  len := rg.len
  nd := rg.nd
  out := fun n a e => by
    rw [upd_ne (fun q => nm n (by rw [e, q]))]
    exact rg.out n a e
  at_ := fun n a u e e2 => (rg.at_ n a u e e2).fu .refl (fun b z q => by
    rw [upd_ne (ne_of_none q fp)]
    exact q) fun z q => q
def mLst (m : M (List D)) : M D := m >>= fun ds => pure (.lst ds)
theorem pd_new {e : Expr} {m : M (List D)} (h : PDn X W Wx e ρ m) : PDe X W Wx e ρ (mLst m) :=
  ⟨PEw h.p fun σ H Q ⟨B, μ, F, g, a, q⟩ => ⟨B, μ, F, g, a, (Run.bind q fun _ z => z).mono (fun _ z => z) fun ds g1 μ1 F1 H1 f1 r1 q1 l vs hl e1 e2 nm rs => by
    have a1 := a.fu f1 (fun _ z => z) r1
    have nB : ¬ B l := fun z => (a.gd l z).2 hl
    exact q1 μ1 _ _ (Fu.froz (o := .lst vs) a1.gd e1 e2 nB) (r1.froz e1 e2 nm) _ (.lst upd_same (rs.mono .refl fun b z q => by
      rw [upd_ne (ne_of_none q e2)]
      exact q))⟩⟩
def asQ : D → M (Bool × List D)
  | .tup xs => pure (true, xs)
  | .lst xs => pure (false, xs)
  | .scr xs => pure (false, xs)
  | _ => stuck
theorem seqAt_of {B : Addr → Prop} {μ : List Addr} {F H : Hp} {d : D} {v : V} {g : GS} {t : Bool × List D} (p : Rep W μ F d v) (e : asQ d g = .ok t g) : SeqAt W B μ F H t.1 t.2 v := by
  cases p <;> first | (cases e; done) | skip
  · rename_i h r
    cases e
    exact ⟨_, _, rfl, r, h.sq⟩
  · rename_i h r
    cases e
    exact ⟨_, _, rfl, r, .inl (SqL.of h)⟩
  · rename_i h r
    cases e
    exact ⟨_, _, rfl, r, .inl h⟩
theorem pq_of {e : Expr} {m : M D} (h : PDe X W Wx e ρ m) : PDq X W Wx e ρ (b1 asQ m) :=
  ⟨PEw h.p fun σ H Q ⟨B, μ, F, g, a, q⟩ => ⟨B, μ, F, g, a, (Run.bind q fun _ z => z).mono (fun _ z => z) fun d g1 μ1 F1 H1 f1 r1 q1 v p => by
    have a1 := a.fu f1 (fun _ z => z) r1
    cases d with
    | tup xs => exact Run.pure (a := (true, xs)) q1 a1.gd a1.rg v (seqAt_of (g := g1) p rfl)
    | lst xs => exact Run.pure (a := (false, xs)) q1 a1.gd a1.rg v (seqAt_of (g := g1) p rfl)
    | scr xs => exact Run.pure (a := (false, xs)) q1 a1.gd a1.rg v (seqAt_of (g := g1) p rfl)
    | _ => exact q1.elim⟩⟩
theorem pq_var (i : Nat) {x : Str} {xs : List D} {pos : Pos} (hr : ρ[i]? = some (.ol xs) := by rfl) (hN : X.N[i]? = some x := by rfl) (hv : Vis X.env.scope x := by first | exact Or.inl rfl | exact Or.inr (Or.inl rfl) | exact Or.inr (Or.inr rfl))
    (hd : (x == ("__debug__" : Str)) = false := by decide) (hcd : (x == ("__classdict__" : Str)) = false := by decide) : PDq X W Wx (.Name x pos) ρ (pure (false, xs)) :=
  ⟨PEw (pe_var hN hv hd hcd) fun σ H Q ⟨B, μ, F, g, a, q⟩ => by
    have hl : i < σ.length := by rw [← a.rel.len]; exact (List.getElem?_eq_some_iff.mp hr).1
    obtain ⟨l, vs, e, e1, e2, nm, r⟩ := a.rel.at_ i _ _ hr (List.getElem?_eq_getElem hl)
    exact ⟨.ref l, by rw [List.getElem?_eq_getElem hl, e], Run.pure q a.gd a.rg _ ⟨l, vs, rfl, r, .inr ⟨e1, nm, a.own l ⟨i, _, hr, rfl, by rw [List.getElem?_eq_getElem hl, e]⟩⟩⟩⟩⟩
theorem SeqAt.sq {K : PySem.W.Frag} (hK : W.K = K) {B : Addr → Prop} {μ : List Addr} {F H : Hp} {t : Bool} {ds : List D} {v : V} (sub : Same F H) (h : SeqAt W B μ F H t ds v) : ∃ a vs, v = .ref a ∧ Reps W μ F ds vs ∧ (SqL K H a vs ∨ SqT K H a vs) := by
  obtain ⟨a, vs, e, r, k⟩ := h
  subst hK
  refine ⟨a, vs, e, r, ?_⟩
  cases t with
  | true => exact .inr (Same.tup sub k)
  | false =>
    rcases k with k | k
    · exact .inl (sub.seq k)
    · exact .inl (SqL.of k.1)
def QD (W : Wd) (r : V → Hp → VK → Prop) (f : Bool × List D → M D) : Prop := ∀ (B : Addr → Prop) μ F H g (t : Bool × List D) v (Q : VK) Wx n, Guard B F H → RG W g μ F H → SeqAt W B μ F H t.1 t.2 v →
  Run W Wx n B μ F H (f t g) (fun d _ μ' F' H' => ∀ v, Rep W μ' F' d v → Q v H') → r v H Q
def qLen : Bool × List D → M D := fun t => pure (.int t.2.length)
theorem pd_lenq {e : Expr} {m : M (Bool × List D)} {p pos : Pos} (hK : W.K = X.K) (hm : X.mg "len" = none) (h : PDq X W Wx e ρ m) (hg : Gl X "len" := by rfl) (he : starEach [e] X.env = (false, eval e X.env) :: starEach [] X.env := by rfl) : PDe X W Wx (.Call (.Name "len" p) [e] [] pos) ρ (b1 qLen m) :=
  ⟨PEw (pe_callB call_len_seq hg hm boot_len (pa_cons h.p pa_nil he) (he := he)) fun σ H Q ⟨B, μ, F, g, a, q⟩ => ⟨B, μ, F, g, a, (Run.bind q fun _ z => z).mono (fun _ z => z) fun t g1 μ1 F1 H1 f1 r1 q1 v p => by
    have a1 := a.fu f1 (fun _ z => z) r1
    obtain ⟨l, vs, e, rs, k⟩ := p.sq hK r1.sub
    refine ⟨l, vs, by rw [e], k, ?_⟩
    rw [← rs.length]
    exact Run.pure q1 a1.gd a1.rg _ (.int _)⟩⟩
def dLen : List D → M D
  | [.str x] => if x.length ≤ sizeLine then pure (.int x.length) else stuck
  | [.tup xs] => pure (.int xs.length)
  | [.lst xs] => pure (.int xs.length)
  | [.scr xs] => pure (.int xs.length)
  | _ => stuck
theorem cd_len : CallD W (fun xs H Q => (∃ z, xs = [.str z] ∧ z.length ≤ sizeLine ∧ Q (.int z.length) H) ∨ ∃ p ys, xs = [.ref p] ∧ (SqL W.K H p ys ∨ SqT W.K H p ys) ∧ Q (.int ys.length) H) dLen := by
  intro B μ F H g ds vs Q Wx n gd rg rs q
  cases rs with
  | nil => exact q.elim
  | cons p t =>
    cases t with
    | cons _ _ => exact (by cases p <;> exact q.elim)
    | nil =>
      cases p with
      | str x =>
        have q' : Run W Wx n B μ F H ((if x.length ≤ sizeLine then pure (.int x.length) else stuck : M D) g) (fun d _ μ' F' H' => ∀ v, Rep W μ' F' d v → Q v H') := q
        by_cases c : x.length ≤ sizeLine
        · rw [if_pos c] at q'
          exact .inl ⟨x, rfl, c, Run.pure q' gd rg _ (.int _)⟩
        · rw [if_neg c] at q'
          exact q'.elim
      | tup h r => exact .inr ⟨_, _, rfl, .inr (Same.tup rg.sub h.sq), by rw [← r.length]; exact Run.pure q gd rg _ (.int _)⟩
      | lst h r => exact .inr ⟨_, _, rfl, .inl (SqL.of (rg.sub _ _ h)), by rw [← r.length]; exact Run.pure q gd rg _ (.int _)⟩
      | scr h r => exact .inr ⟨_, _, rfl, .inl (rg.sub.seq h), by rw [← r.length]; exact Run.pure q gd rg _ (.int _)⟩
      | _ => exact q.elim
theorem pd_len {e : Expr} {m : M D} {p pos : Pos} (hK : W.K = X.K) (hm : X.mg "len" = none) (h : PDe X W Wx e ρ m) (hg : Gl X "len" := by rfl) (he : starEach [e] X.env = (false, eval e X.env) :: starEach [] X.env := by rfl) : PDe X W Wx (.Call (.Name "len" p) [e] [] pos) ρ (aCons m aNil D dLen) :=
  pd_callB (CallR.or call_len_str call_len_seq) (by subst_vars; rw [← hK]; exact cd_len) hm (da_cons h da_nil he) hg boot_len (he := he)
def iAt {α : Type} (xs : List α) (i : Int) : Option α := atI xs i
def dIx : D → D → M D
  | .tup xs, .int i => match atI xs i with
    | some d => pure d
    | none => stuck
  | .lst xs, .int i => match atI xs i with
    | some d => pure d
    | none => stuck
  | .scr xs, .int i => match atI xs i with
    | some d => pure d
    | none => stuck
  | .str z, .int i => if z.length ≤ sizeLine then (match atI z.cps.toList i with
    | some c => pure (.str ⟨#[c]⟩)
    | none => stuck) else stuck
  | _, _ => stuck
theorem Reps.atI {μ : List Addr} {F : Hp} {ds : List D} {vs : List V} {i : Int} {d : D} (r : Reps W μ F ds vs) (e : atI ds i = some d) : ∃ v, atI vs i = some v ∧ Rep W μ F d v := by
  unfold L2.atI at e ⊢
  rw [r.length] at e
  cases h : ixN vs.length i with
  | none => rw [h] at e; cases e
  | some j =>
    rw [h] at e
    exact r.get e
theorem opD_ix : OpD W (rIx W.K) dIx := by
  intro B μ F H g x y dx dy Q Wx n gd rg px py q
  have seq : ∀ {xs : List D} {i : Int} {vs : List V}, Reps W μ F xs vs → Run W Wx n B μ F H ((match atI xs i with | some d => pure d | none => stuck : M D) g) (fun d _ μ' F' H' => ∀ v, Rep W μ' F' d v → Q v H') → ∃ v, atI vs i = some v ∧ Q v H := fun {xs i vs} r q => by
    cases e : atI xs i with
    | none => rw [e] at q; exact q.elim
    | some d =>
      rw [e] at q
      obtain ⟨v, e2, p⟩ := r.atI e
      exact ⟨v, e2, Run.pure q gd rg v p⟩
  cases px with
  | tup h r =>
    cases py with
    | int i =>
      obtain ⟨v, e, z⟩ := seq r q
      exact .inr (.inl ⟨_, _, _, v, rfl, rfl, Same.tup rg.sub h.sq, e, z⟩)
    | _ => exact q.elim
  | lst h r =>
    cases py with
    | int i =>
      obtain ⟨v, e, z⟩ := seq r q
      exact .inl ⟨_, _, _, v, rfl, rfl, SqL.of (rg.sub _ _ h), e, z⟩
    | _ => exact q.elim
  | scr h r =>
    cases py with
    | int i =>
      obtain ⟨v, e, z⟩ := seq r q
      exact .inl ⟨_, _, _, v, rfl, rfl, rg.sub.seq h, e, z⟩
    | _ => exact q.elim
  | str z =>
    cases py with
    | int i =>
      have q' : Run W Wx n B μ F H ((if z.length ≤ sizeLine then (match atI z.cps.toList i with | some c => pure (.str ⟨#[c]⟩) | none => stuck) else stuck : M D) g) (fun d _ μ' F' H' => ∀ v, Rep W μ' F' d v → Q v H') := q
      by_cases c : z.length ≤ sizeLine
      · rw [if_pos c] at q'
        cases e : atI z.cps.toList i with
        | none => rw [e] at q'; exact q'.elim
        | some cc =>
          rw [e] at q'
          exact .inr (.inr ⟨z, i, cc, rfl, rfl, c, e, Run.pure q' gd rg _ (.str _)⟩)
      · rw [if_neg c] at q'
        exact q'.elim
    | _ => exact q.elim
  | _ => exact q.elim
theorem pd_ix (hK : W.K = X.K) {a b : Expr} {m1 m2 : M D} {pos : Pos} (ha : PDe X W Wx a ρ m1) (hb : PDe X W Wx b ρ m2) (hs : PlainIx b := by exact fun _ _ => rfl) : PDe X W Wx (.Subscript a b pos) ρ (b2 dIx m1 m2) :=
  ⟨PEw (pe_ix ix_seq ha.p hb.p hs) fun _ _ _ q => opD (hK ▸ opD_ix) q⟩
def qIx (t : Bool × List D) : D → M D
  | .int i => match atI t.2 i with
    | some d => pure d
    | none => stuck
  | _ => stuck
theorem pd_ixq (hK : W.K = X.K) {a b : Expr} {m1 : M (Bool × List D)} {m2 : M D} {pos : Pos} (ha : PDq X W Wx a ρ m1) (hb : PDe X W Wx b ρ m2) (hs : PlainIx b := by exact fun _ _ => rfl) : PDe X W Wx (.Subscript a b pos) ρ (b2 qIx m1 m2) :=
  ⟨PEw (pe_ix (ix_list.or ix_tup) ha.p hb.p hs) fun σ H Q ⟨B, μ, F, g, a, q⟩ => ⟨B, μ, F, g, a, (Run.bind q fun _ z => z).mono (fun _ z => z) fun t g1 μ1 F1 H1 f1 r1 q1 v1 p1 => by
    have a1 := a.fu f1 (fun _ z => z) r1
    refine ⟨B, μ1, F1, g1, a1, (Run.bind q1 fun _ z => z).mono (fun _ z => z) fun d2 g2 μ2 F2 H2 f2 r2 q2 v2 p2 => ?_⟩
    obtain ⟨l, vs, e, rs, k⟩ := p1
    have rs2 := rs.mono f2.grow f2.fro
    cases p2 with
    | int i =>
      cases e2 : atI t.2 i with
      | none =>
        have q2' : Run W Wx σ.length B μ2 F2 H2 ((match atI t.2 i with | some d => pure d | none => stuck : M D) g2) (fun d _ μ' F' H' => ∀ v, Rep W μ' F' d v → Q v H') := q2
        rw [e2] at q2'
        exact q2'.elim
      | some d =>
        have q2' : Run W Wx σ.length B μ2 F2 H2 ((match atI t.2 i with | some d => pure d | none => stuck : M D) g2) (fun d _ μ' F' H' => ∀ v, Rep W μ' F' d v → Q v H') := q2
        rw [e2] at q2'
        obtain ⟨w, e3, pw⟩ := rs2.atI e2
        have z := Run.pure q2' (a1.fu f2 (fun _ z => z) r2).gd r2 w pw
        cases ht : t.1 with
        | true =>
          rw [ht] at k
          exact .inr ⟨l, vs, i, w, e, rfl, Same.tup r2.sub (Same.tup f2.fro (hK ▸ k)), e3, z⟩
        | false =>
          rw [ht] at k
          rcases (show SqL W.K F1 l vs ∨ _ from k) with k | k
          · exact .inl ⟨l, vs, i, w, e, rfl, r2.sub.seq (f2.fro.seq (hK ▸ k)), e3, z⟩
          · exact .inl ⟨l, vs, i, w, e, rfl, SqL.of (f2.keep _ _ k.2.2 k.1 k.2.1), e3, z⟩
    | _ => exact q2.elim⟩⟩
end
end PD
namespace PD
open PySem PySem.Spec L2
open PyProof.Rows hiding St
section
variable {X : Cx} {W : Wd} {Wx : WX} {ρ : Ro}
def strIn (x y : Str) : Bool := !(Builtin.Str.occurrences y x 0 y.length 1).isEmpty
def D.isIn (d : D) (ds : List D) : Bool := ds.any fun y => D.eqv y d
def okIn (d : D) (ds : List D) : Bool := d.dat && datAll ds && (pyAll ds).all (fun y => SeqAt.mixOk y d.py) && decide (d.py.depth ≤ 40)
theorem okIn_of {d : D} {ds : List D} (h : okIn d ds = true) : d.dat = true ∧ datAll ds = true ∧ (pyAll ds).all (fun y => SeqAt.mixOk y d.py) = true ∧ d.py.depth ≤ 40 := by
  unfold okIn at h
  simp only [Bool.and_eq_true, decide_eq_true_eq] at h
  exact ⟨h.1.1.1, h.1.1.2, h.1.2, h.2⟩
theorem any_py (d : D) (ds : List D) : (pyAll ds).any (fun y => PyData.eqv y d.py) = D.isIn d ds := by
  unfold D.isIn
  induction ds with
  | nil => rfl
  | cons x xs ih => rw [pyAll, List.any_cons, List.any_cons, ih]; rfl
def rInD (W : Wd) (K : PySem.W.Frag) (neg : Bool) : R2 := fun x y H Q => ∃ μ F dx ds a vs, Same F H ∧ Rep W μ F dx x ∧ Reps W μ F ds vs ∧ y = .ref a ∧ (SqL K H a vs ∨ SqT K H a vs) ∧ okIn dx ds = true ∧ Q (.bl (if neg = true then !D.isIn dx ds else D.isIn dx ds)) H
theorem inD_core {pins : List (Addr × Obj)} {s : Shared} {σ : L2.St} {H F : Hp} {μ : List Addr} {dx : D} {ds : List D} {x : V} {a : Addr} {vs : List V} {v : Value} (I : Inv X pins σ H s) (hK : W.K = X.K) (sub : Same F H) (px : Rep W μ F dx x) (rs : Reps W μ F ds vs) (rx : RelV x v) (k : SqL X.K H a vs ∨ SqT X.K H a vs) (ok : okIn dx ds = true) :
    ∃ us : Array Value, (s.heap.IsList a us ∨ s.heap.IsTuple a us) ∧ SeqAt.RdMs s.heap us.toList (pyAll ds) ∧ SeqAt.RdM s.heap v dx.py := by
  obtain ⟨a1, a4, a2, a3⟩ := okIn_of ok
  have r2 := px.rdm I sub hK a1 rx
  rcases k with k | k
  · obtain ⟨its, rv, ⟨o, n, ho, hc, _, hd⟩, _⟩ := I.list k
    exact ⟨_, .inl ⟨o, ho, hc, n, hd⟩, rs.rdm I sub hK a4 (by simpa using rv), r2⟩
  · obtain ⟨its, rv, pl, _⟩ := I.tuple k
    exact ⟨_, .inr pl, rs.rdm I sub hK a4 (by simpa using rv), r2⟩
theorem op_inD (hK : W.K = X.K) (hu : X.A.units + 64 < cLine) : OpR X (compareOp .In) (rInD W X.K false) := by
  intro pins s σ H x y v u Q I rx ry h
  obtain ⟨μ, F, dx, ds, a, vs, sub, px, rs, rfl, k, ok, q⟩ := h
  cases ry
  obtain ⟨us, pl, r1, r2⟩ := inD_core I hK sub px rs rx k ok
  obtain ⟨_, _, p2, p3⟩ := okIn_of ok
  rcases pl with pl | pl
  · exact SeqAt.in_list_mix pl r1 r2 p2 (by omega) ⟨.bl _, H, I, by rw [any_py]; rfl, q⟩
  · exact SeqAt.in_tuple_mix pl r1 r2 p2 (by omega) ⟨.bl _, H, I, by rw [any_py]; rfl, q⟩
theorem op_notInD (hK : W.K = X.K) (hu : X.A.units + 64 < cLine) : OpR X (compareOp .NotIn) (rInD W X.K true) := by
  intro pins s σ H x y v u Q I rx ry h
  obtain ⟨μ, F, dx, ds, a, vs, sub, px, rs, rfl, k, ok, q⟩ := h
  cases ry
  obtain ⟨us, pl, r1, r2⟩ := inD_core I hK sub px rs rx k ok
  obtain ⟨_, _, p2, p3⟩ := okIn_of ok
  rcases pl with pl | pl
  · exact SeqAt.notIn_list_mix pl r1 r2 p2 (by omega) ⟨.bl _, H, I, by rw [any_py]; rfl, q⟩
  · exact SeqAt.notIn_tuple_mix pl r1 r2 p2 (by omega) ⟨.bl _, H, I, by rw [any_py]; rfl, q⟩
def neg? (neg : Bool) (b : Bool) : Bool := if neg = true then !b else b
def inSeq (neg : Bool) (d : D) (ds : List D) : M D := if okIn d ds = true then pure (.bl (neg? neg (D.isIn d ds))) else stuck
def dInG (neg : Bool) (x : D) : D → M D
  | .str z => match x with
    | .str y => pure (.bl (neg? neg (strIn y z)))
    | _ => stuck
  | .tup ds => inSeq neg x ds
  | .lst ds => inSeq neg x ds
  | .scr ds => inSeq neg x ds
  | _ => stuck
def dIn : D → D → M D := dInG false
def dNotIn : D → D → M D := dInG true
def qInG (neg : Bool) (x : D) (t : Bool × List D) : M D := inSeq neg x t.2
def qIn : D → Bool × List D → M D := qInG false
def qNotIn : D → Bool × List D → M D := qInG true
def rInA (W : Wd) (K : PySem.W.Frag) (neg : Bool) : R2 := fun x y H Q => (∃ i j, x = .str i ∧ y = .str j ∧ Q (.bl (neg? neg (strIn i j))) H) ∨ rInD W K neg x y H Q
theorem op_inA (hK : W.K = X.K) (hu : X.A.units + 64 < cLine) : OpR X (compareOp .In) (rInA W X.K false) := OpR.or op_in_str (op_inD hK hu)
theorem op_notInA (hK : W.K = X.K) (hu : X.A.units + 64 < cLine) : OpR X (compareOp .NotIn) (rInA W X.K true) := OpR.or op_notIn_str (op_notInD hK hu)
theorem inSeq_D {neg : Bool} {B : Addr → Prop} {μ : List Addr} {F H : Hp} {g : GS} {x : V} {a : Addr} {vs : List V} {dx : D} {ds : List D} {Q : VK} {n : Nat} (gd : Guard B F H) (rg : RG W g μ F H) (px : Rep W μ F dx x) (rs : Reps W μ F ds vs) (k : SqL W.K H a vs ∨ SqT W.K H a vs)
    (q : Run W Wx n B μ F H (inSeq neg dx ds g) fun d _ μ' F' H' => ∀ v, Rep W μ' F' d v → Q v H') : rInD W W.K neg x (.ref a) H Q := by
  unfold inSeq at q
  by_cases c : okIn dx ds = true
  · rw [if_pos c] at q
    exact ⟨μ, F, dx, ds, a, vs, rg.sub, px, rs, rfl, k, c, Run.pure q gd rg _ (.bl _)⟩
  · rw [if_neg c] at q
    exact q.elim
theorem opD_in {neg : Bool} : OpD W (rInA W W.K neg) (dInG neg) := by
  intro B μ F H g x y dx dy Q Wx n gd rg px py q
  cases py with
  | str z =>
    cases px with
    | str y => exact .inl ⟨_, _, rfl, rfl, Run.pure q gd rg _ (.bl _)⟩
    | _ => exact q.elim
  | tup h r => exact .inr (inSeq_D gd rg px r (.inr (Same.tup rg.sub h.sq)) q)
  | lst h r => exact .inr (inSeq_D gd rg px r (.inl (SqL.of (rg.sub _ _ h))) q)
  | scr h r => exact .inr (inSeq_D gd rg px r (.inl (rg.sub.seq h)) q)
  | _ => exact q.elim
section
variable {a b : Expr} {m1 m2 : M D} {mq : M (Bool × List D)} {pos : Pos} {k : Nat}
theorem pd_in (hK : W.K = X.K) (bd : Bd X k) (ha : PDe X W Wx a ρ m1) (hb : PDe X W Wx b ρ m2) (hm : behindInMarks .In b = false := by rfl) : PDe X W Wx (.Compare a [.In] [b] pos) ρ (b2 dIn m1 m2) := pd_cmp (op_inA hK bd.rm.units) (hK ▸ opD_in) ha hb hm
theorem pd_notIn (hK : W.K = X.K) (bd : Bd X k) (ha : PDe X W Wx a ρ m1) (hb : PDe X W Wx b ρ m2) (hm : behindInMarks .NotIn b = false := by rfl) : PDe X W Wx (.Compare a [.NotIn] [b] pos) ρ (b2 dNotIn m1 m2) := pd_cmp (op_notInA hK bd.rm.units) (hK ▸ opD_in) ha hb hm
theorem pt_in (hK : W.K = X.K) (bd : Bd X k) (ha : PDe X W Wx a ρ m1) (hb : PDe X W Wx b ρ m2) (hm : behindInMarks .In b = false := by rfl) : PDt X W Wx (.Compare a [.In] [b] pos) ρ (b1 asB (b2 dIn m1 m2)) := pt_cmp (op_inA hK bd.rm.units) (hK ▸ opD_in) ha hb hm
theorem pt_notIn (hK : W.K = X.K) (bd : Bd X k) (ha : PDe X W Wx a ρ m1) (hb : PDe X W Wx b ρ m2) (hm : behindInMarks .NotIn b = false := by rfl) : PDt X W Wx (.Compare a [.NotIn] [b] pos) ρ (b1 asB (b2 dNotIn m1 m2)) := pt_cmp (op_notInA hK bd.rm.units) (hK ▸ opD_in) ha hb hm
theorem opQ {r : R2} {f : D → Bool × List D → M D} (h : ∀ (B : Addr → Prop) μ F H g x y dx (t : Bool × List D) (Q : VK) Wx n, Guard B F H → RG W g μ F H → Rep W μ F dx x → SeqAt W B μ F H t.1 t.2 y → Run W Wx n B μ F H (f dx t g) (fun d _ μ' F' H' => ∀ v, Rep W μ' F' d v → Q v H') → r x y H Q)
    {σ : L2.St} {H : Hp} {Q : VK} (q : tE W Wx ρ (b2 f m1 mq) σ H Q) : tOp r (tE W Wx ρ m1) (tQ W Wx ρ mq) σ H Q := by
  obtain ⟨B, μ, F, g, a, q⟩ := q
  refine ⟨B, μ, F, g, a, (Run.bind q fun _ z => z).mono (fun _ z => z) fun d1 g1 μ1 F1 H1 f1 r1 q1 v1 p1 => ?_⟩
  have a1 := a.fu f1 (fun _ z => z) r1
  refine ⟨B, μ1, F1, g1, a1, (Run.bind q1 fun _ z => z).mono (fun _ z => z) fun d2 g2 μ2 F2 H2 f2 r2 q2 v2 p2 => ?_⟩
  exact h B μ2 F2 H2 g2 v1 v2 d1 d2 Q Wx _ (a1.fu f2 (fun _ z => z) r2).gd r2 (p1.mono f2.grow f2.fro) p2 q2
theorem qIn_rule (neg : Bool) : ∀ (B : Addr → Prop) μ F H g x y dx (t : Bool × List D) (Q : VK) Wx n, Guard B F H → RG W g μ F H → Rep W μ F dx x → SeqAt W B μ F H t.1 t.2 y → Run W Wx n B μ F H (qInG neg dx t g) (fun d _ μ' F' H' => ∀ v, Rep W μ' F' d v → Q v H') → rInD W W.K neg x y H Q := by
  intro B μ F H g x y dx t Q Wx n gd rg px py q
  obtain ⟨a, vs, e, rs, k⟩ := py.sq rfl rg.sub
  subst e
  exact inSeq_D gd rg px rs k q
theorem pd_inq (hK : W.K = X.K) (bd : Bd X k) (ha : PDe X W Wx a ρ m1) (hb : PDq X W Wx b ρ mq) (hm : behindInMarks .In b = false := by rfl) : PDe X W Wx (.Compare a [.In] [b] pos) ρ (b2 qIn m1 mq) :=
  ⟨PEw (pe_cmpR (op_inD hK bd.rm.units) ha.p hb.p hm) fun _ _ _ q => opQ (hK ▸ qIn_rule false) q⟩
theorem pd_notInq (hK : W.K = X.K) (bd : Bd X k) (ha : PDe X W Wx a ρ m1) (hb : PDq X W Wx b ρ mq) (hm : behindInMarks .NotIn b = false := by rfl) : PDe X W Wx (.Compare a [.NotIn] [b] pos) ρ (b2 qNotIn m1 mq) :=
  ⟨PEw (pe_cmpR (op_notInD hK bd.rm.units) ha.p hb.p hm) fun _ _ _ q => opQ (hK ▸ qIn_rule true) q⟩
theorem pt_inq (hK : W.K = X.K) (bd : Bd X k) (ha : PDe X W Wx a ρ m1) (hb : PDq X W Wx b ρ mq) (hm : behindInMarks .In b = false := by rfl) : PDt X W Wx (.Compare a [.In] [b] pos) ρ (b1 asB (b2 qIn m1 mq)) :=
  ⟨PTw (pt_cmpR (op_inD hK bd.rm.units) ha.p hb.p hm) fun _ _ _ q => tT_of q fun _ _ _ q => opQ (hK ▸ qIn_rule false) q⟩
theorem pt_notInq (hK : W.K = X.K) (bd : Bd X k) (ha : PDe X W Wx a ρ m1) (hb : PDq X W Wx b ρ mq) (hm : behindInMarks .NotIn b = false := by rfl) : PDt X W Wx (.Compare a [.NotIn] [b] pos) ρ (b1 asB (b2 qNotIn m1 mq)) :=
  ⟨PTw (pt_cmpR (op_notInD hK bd.rm.units) ha.p hb.p hm) fun _ _ _ q => tT_of q fun _ _ _ q => opQ (hK ▸ qIn_rule true) q⟩
def qEqG (neg : Bool) (t : Bool × List D) (y : D) : M D := if D.cok (.lst t.2) y = true ∧ t.1 = false then pure (.bl (neg? neg (D.eqv (.lst t.2) y))) else stuck
def qEq : Bool × List D → D → M D := qEqG false
def qNe : Bool × List D → D → M D := qEqG true
theorem opQ1 {r : R2} {f : Bool × List D → D → M D} {σ : L2.St} {H : Hp} {Q : VK} (h : ∀ (B : Addr → Prop) μ F H g x y dy (t : Bool × List D) (Q : VK) Wx n, Guard B F H → RG W g μ F H → SeqAt W B μ F H t.1 t.2 x → Rep W μ F dy y → Run W Wx n B μ F H (f t dy g) (fun d _ μ' F' H' => ∀ v, Rep W μ' F' d v → Q v H') → r x y H Q)
    (q : tE W Wx ρ (b2 f mq m2) σ H Q) : tOp r (tQ W Wx ρ mq) (tE W Wx ρ m2) σ H Q := by
  obtain ⟨B, μ, F, g, a, q⟩ := q
  refine ⟨B, μ, F, g, a, (Run.bind q fun _ z => z).mono (fun _ z => z) fun t g1 μ1 F1 H1 f1 r1 q1 v1 p1 => ?_⟩
  have a1 := a.fu f1 (fun _ z => z) r1
  refine ⟨B, μ1, F1, g1, a1, (Run.bind q1 fun _ z => z).mono (fun _ z => z) fun d2 g2 μ2 F2 H2 f2 r2 q2 v2 p2 => ?_⟩
  refine h B μ2 F2 H2 g2 v1 v2 d2 t Q Wx _ (a1.fu f2 (fun _ z => z) r2).gd r2 ?_ p2 q2
  obtain ⟨l, vs, e, rs, k⟩ := p1
  refine ⟨l, vs, e, rs.mono f2.grow f2.fro, ?_⟩
  cases ht : t.1 with
  | true =>
    rw [ht] at k
    exact Same.tup f2.fro k
  | false =>
    rw [ht] at k
    rcases (show SqL W.K F1 l vs ∨ _ from k) with k | k
    · exact Or.inl (f2.fro.seq k)
    · exact Or.inr ⟨f2.keep _ _ k.2.2 k.1 k.2.1, (fun n z => (f2.new n l k.2.2 z).elim (k.2.1 n) (fun z => (by rw [k.1] at z; cases z))), k.2.2⟩
theorem qEq_rule (neg : Bool) : ∀ (B : Addr → Prop) μ F H g x y dy (t : Bool × List D) (Q : VK) Wx n, Guard B F H → RG W g μ F H → SeqAt W B μ F H t.1 t.2 x → Rep W μ F dy y → Run W Wx n B μ F H (qEqG neg t dy g) (fun d _ μ' F' H' => ∀ v, Rep W μ' F' d v → Q v H') →
    rDat W (fun a b => neg? neg (PyData.eqv a b)) x y H Q := by
  intro B μ F H g x y dy t Q Wx n gd rg px py q
  unfold qEqG at q
  by_cases c : D.cok (.lst t.2) dy = true ∧ t.1 = false
  · rw [if_pos c] at q
    have z := Run.pure q gd rg _ (.bl _)
    obtain ⟨l, vs, e, rs, k⟩ := px
    subst e
    rw [c.2] at k
    rcases (show SqL W.K F l vs ∨ _ from k) with k | k
    · exact ⟨μ, F, .scr t.2, dy, rg.sub, .scr k rs, py, c.1, z⟩
    · by_cases fl : F l = none
      · refine ⟨μ, upd F l (.lst vs), .lst t.2, dy, fun b u e => ?_, .lst upd_same (rs.mono .refl fun b u e => ?_), py.mono .refl fun b u e => ?_, c.1, z⟩
        · by_cases hb : b = l
          · subst hb
            rw [upd_same] at e
            rw [k.1]
            exact e
          · rw [upd_ne hb] at e
            exact rg.sub b u e
        · rw [upd_ne (ne_of_none e fl)]
          exact e
        · rw [upd_ne (ne_of_none e fl)]
          exact e
      · have e : F l = some (.lst vs) := by
          cases q : F l with
          | none => exact absurd q fl
          | some o =>
            have := rg.sub _ _ q
            rw [k.1] at this
            cases this
            rfl
        exact ⟨μ, F, .lst t.2, dy, rg.sub, .lst e rs, py, c.1, z⟩
  · rw [if_neg c] at q
    exact q.elim
theorem pt_eqq (hK : W.K = X.K) (bd : Bd X k) (ha : PDq X W Wx a ρ mq) (hb : PDe X W Wx b ρ m2) : PDt X W Wx (.Compare a [.Eq] [b] pos) ρ (b1 asB (b2 qEq mq m2)) :=
  ⟨PTw (pt_cmpR (op_eqA hK bd.rm.units) ha.p hb.p (nomark _)) fun _ _ _ q => tT_of q fun _ _ _ q => opQ1 (qEq_rule false) q⟩
theorem pt_neq (hK : W.K = X.K) (bd : Bd X k) (ha : PDq X W Wx a ρ mq) (hb : PDe X W Wx b ρ m2) : PDt X W Wx (.Compare a [.NotEq] [b] pos) ρ (b1 asB (b2 qNe mq m2)) :=
  ⟨PTw (pt_cmpR (op_neA hK bd.rm.units) ha.p hb.p (nomark _)) fun _ _ _ q => tT_of q fun _ _ _ q => opQ1 (qEq_rule true) q⟩
theorem pd_eqq (hK : W.K = X.K) (bd : Bd X k) (ha : PDq X W Wx a ρ mq) (hb : PDe X W Wx b ρ m2) : PDe X W Wx (.Compare a [.Eq] [b] pos) ρ (b2 qEq mq m2) :=
  ⟨PEw (pe_cmpR (op_eqA hK bd.rm.units) ha.p hb.p (nomark _)) fun _ _ _ q => opQ1 (qEq_rule false) q⟩
end
def tO (W : Wd) (Wx : WX) (ρ : Ro) (m : M (Option Int)) : TO := fun σ H Q => ∃ (B : Addr → Prop) (μ : List Addr) (F : Hp) (g : GS), At W B μ F H g ρ σ ∧ Run W Wx σ.length B μ F H (m g) fun o _ μ' F' H' => Q o H'
structure PDo (X : Cx) (W : Wd) (Wx : WX) (e : Option Expr) (ρ : Ro) (m : M (Option Int)) : Prop where
  p : PO X e (tO W Wx ρ m)
def asI : D → M (Option Int)
  | .int i => pure (some i)
  | _ => stuck
theorem POw {e : Option Expr} {t u : TO} (h : PO X e t) (k : ∀ σ H Q, u σ H Q → t σ H Q) : PO X e u := ⟨fun pins s σ H Q I q => h.run pins s σ H Q I (k σ H Q q)⟩
theorem do_none : PDo X W Wx none ρ (pure none) := ⟨POw po_none fun σ H Q ⟨B, μ, F, g, a, q⟩ => Run.pure q a.gd a.rg⟩
theorem do_some {e : Expr} {m : M D} (h : PDe X W Wx e ρ m) : PDo X W Wx (some e) ρ (b1 asI m) :=
  ⟨POw (po_some h.p) fun σ H Q ⟨B, μ, F, g, a, q⟩ => ⟨B, μ, F, g, a, (Run.bind q fun _ z => z).mono (fun _ z => z) fun d g1 μ1 F1 H1 f1 r1 q1 v p => by
    have a1 := a.fu f1 (fun _ z => z) r1
    cases p <;> first | exact q1.elim | exact ⟨_, rfl, Run.pure q1 a1.gd a1.rg⟩⟩⟩
def cutL {α : Type} (xs : List α) (lo hi : Option Int) : List α := (xs.drop (HT.sIx xs.length 0 lo)).take (HT.sIx xs.length xs.length hi - HT.sIx xs.length 0 lo)
theorem Reps.cut {μ : List Addr} {F : Hp} {ds : List D} {vs : List V} (r : Reps W μ F ds vs) (lo hi : Option Int) : Reps W μ F (cutL ds lo hi) (cutV vs lo hi) := by
  unfold cutL cutV
  rw [r.length]
  exact (r.drop _).take _
def dSl (lo hi : Option Int) : D → M D
  | .tup xs => pure (.tup (cutL xs lo hi))
  | .lst xs => pure (.lst (cutL xs lo hi))
  | .scr xs => pure (.lst (cutL xs lo hi))
  | .str z => if z.length ≤ sizeLine then pure (.str (cutS z lo hi)) else stuck
  | _ => stuck
def mSl (m : M D) (l h : M (Option Int)) : M D := m >>= fun d => l >>= fun lo => h >>= fun hi => dSl lo hi d
theorem pd_sl (hK : W.K = X.K) {e : Expr} {lo hi : Option Expr} {m : M D} {l h : M (Option Int)} {p2 pos : Pos} (he : PDe X W Wx e ρ m) (hl : PDo X W Wx lo ρ l) (hh : PDo X W Wx hi ρ h) : PDe X W Wx (.Subscript e (.Slice lo hi none p2) pos) ρ (mSl m l h) :=
  ⟨PEw (pe_slice (SlR.or sl_tupZ (SlR.or sl_list sl_str)) he.p hl.p hh.p) fun σ H Q ⟨B, μ, F, g, a, q⟩ => ⟨B, μ, F, g, a, (Run.bind q fun _ z => z).mono (fun _ z => z) fun d g1 μ1 F1 H1 f1 r1 q1 v p => by
    have a1 := a.fu f1 (fun _ z => z) r1
    refine ⟨B, μ1, F1, g1, a1, (Run.bind q1 fun _ z => z).mono (fun _ z => z) fun lo g2 μ2 F2 H2 f2 r2 q2 => ?_⟩
    have a2 := a1.fu f2 (fun _ z => z) r2
    refine ⟨B, μ2, F2, g2, a2, (Run.bind q2 fun _ z => z).mono (fun _ z => z) fun hi g3 μ3 F3 H3 f3 r3 q3 => ?_⟩
    have a3 := a2.fu f3 (fun _ z => z) r3
    have p3 := (p.mono f2.grow f2.fro).mono f3.grow f3.fro
    cases p3 with
    | @tup b vs xs h r =>
      refine .inl ⟨_, vs, rfl, Same.tup r3.sub (hK ▸ h.sq), fun c => ?_, fun _ p o hp ho => ?_⟩
      · have e : cutL xs lo hi = xs := by
          unfold cutL
          rw [r.length, c.1, c.2, List.drop_zero, Nat.sub_zero, ← r.length, List.take_length]
        have q4 : Run W Wx σ.length B μ3 F3 H3 ((Pure.pure (D.tup (cutL xs lo hi)) : M D) g3) (fun d _ μ' F' H' => ∀ v, Rep W μ' F' d v → Q v H') := q3
        rw [e] at q4
        exact Run.pure q4 a3.gd a3.rg _ (.tup h r)
      · exact Run.laid q3 a3.gd a3.rg hp _ (.newTup ho a3.rg.sub hp (r.cut lo hi))
    | @lst b vs xs h r =>
      refine .inr (.inl ⟨_, vs, rfl, SqL.of (r3.sub _ _ h), fun p hp => ?_⟩)
      exact Run.laid q3 a3.gd a3.rg hp _ (.newLst a3.rg.sub hp (r.cut lo hi))
    | @scr b vs xs h r =>
      refine .inr (.inl ⟨_, vs, rfl, r3.sub.seq (hK ▸ h), fun p hp => ?_⟩)
      exact Run.laid q3 a3.gd a3.rg hp _ (.newLst a3.rg.sub hp (r.cut lo hi))
    | str z =>
      have q4 : Run W Wx σ.length B μ3 F3 H3 ((if z.length ≤ sizeLine then pure (.str (cutS z lo hi)) else stuck : M D) g3) (fun d _ μ' F' H' => ∀ v, Rep W μ' F' d v → Q v H') := q3
      by_cases c : z.length ≤ sizeLine
      · rw [if_pos c] at q4
        exact .inr (.inr ⟨z, rfl, c, Run.pure q4 a3.gd a3.rg _ (.str _)⟩)
      · rw [if_neg c] at q4
        exact q4.elim
    | _ => exact q3.elim⟩⟩
def cTuple : List D → M D
  | [.tup xs] => pure (.tup xs)
  | [.lst xs] => pure (.tup xs)
  | [.scr xs] => pure (.tup xs)
  | _ => stuck
theorem cd_tuple : CallD W (fun xs H Q => ∃ p ys, xs = [.ref p] ∧ ((SqL W.K H p ys ∧ layT H Q ys) ∨ (SqT W.K H p ys ∧ Q (.ref p) H))) cTuple := by
  intro B μ F H g ds vs Q Wx n gd rg rs q
  cases rs with
  | nil => exact q.elim
  | cons p t =>
    cases t with
    | cons _ _ => exact (by cases p <;> exact q.elim)
    | nil =>
      cases p with
      | tup h r => exact ⟨_, _, rfl, .inr ⟨Same.tup rg.sub h.sq, Run.pure q gd rg _ (.tup h r)⟩⟩
      | lst h r => exact ⟨_, _, rfl, .inl ⟨SqL.of (rg.sub _ _ h), fun p o hp ho => Run.laid q gd rg hp _ (.newTup ho rg.sub hp r)⟩⟩
      | scr h r => exact ⟨_, _, rfl, .inl ⟨rg.sub.seq h, fun p o hp ho => Run.laid q gd rg hp _ (.newTup ho rg.sub hp r)⟩⟩
      | _ => exact q.elim
def cList : List D → M D
  | [.tup xs] => pure (.lst xs)
  | [.lst xs] => pure (.lst xs)
  | [.scr xs] => pure (.lst xs)
  | _ => stuck
theorem cd_list : CallD W (fun xs H Q => ∃ p ys, xs = [.ref p] ∧ (SqL W.K H p ys ∨ SqT W.K H p ys) ∧ ∀ l, H l = none → Q (.ref l) (upd H l (.lst ys))) cList := by
  intro B μ F H g ds vs Q Wx n gd rg rs q
  cases rs with
  | nil => exact q.elim
  | cons p t =>
    cases t with
    | cons _ _ => exact (by cases p <;> exact q.elim)
    | nil =>
      cases p with
      | tup h r => exact ⟨_, _, rfl, .inr (Same.tup rg.sub h.sq), fun p hp => Run.laid q gd rg hp _ (.newLst rg.sub hp r)⟩
      | lst h r => exact ⟨_, _, rfl, .inl (SqL.of (rg.sub _ _ h)), fun p hp => Run.laid q gd rg hp _ (.newLst rg.sub hp r)⟩
      | scr h r => exact ⟨_, _, rfl, .inl (rg.sub.seq h), fun p hp => Run.laid q gd rg hp _ (.newLst rg.sub hp r)⟩
      | _ => exact q.elim
section
variable {e : Expr} {m : M D} {mq : M (Bool × List D)} {p pos : Pos}
theorem pd_tuple (hK : W.K = X.K) (hm : X.mg "tuple" = none) (h : PDe X W Wx e ρ m) (hg : Gl X "tuple" := by rfl) (he : starEach [e] X.env = (false, eval e X.env) :: starEach [] X.env := by rfl) : PDe X W Wx (.Call (.Name "tuple" p) [e] [] pos) ρ (aCons m aNil D cTuple) :=
  pd_callT call_tupZ (by rw [← hK]; exact cd_tuple) hm (da_cons h da_nil he) hg (by decide +kernel) (he := he)
theorem pd_list (hK : W.K = X.K) (hm : X.mg "list" = none) (h : PDe X W Wx e ρ m) (hg : Gl X "list" := by rfl) (he : starEach [e] X.env = (false, eval e X.env) :: starEach [] X.env := by rfl) : PDe X W Wx (.Call (.Name "list" p) [e] [] pos) ρ (aCons m aNil D cList) :=
  pd_callT call_list_of (by rw [← hK]; exact cd_list) hm (da_cons h da_nil he) hg (by decide +kernel) (he := he)
def qList (t : Bool × List D) : M (List D) := pure t.2
theorem pn_list (hK : W.K = X.K) (hm : X.mg "list" = none) (h : PDq X W Wx e ρ mq) (hg : Gl X "list" := by rfl) (he : starEach [e] X.env = (false, eval e X.env) :: starEach [] X.env := by rfl) : PDn X W Wx (.Call (.Name "list" p) [e] [] pos) ρ (b1 qList mq) :=
  ⟨PEw (pe_callTy call_list_of hg hm (by decide +kernel) (pa_cons h.p pa_nil he) (he := he)) fun σ H Q ⟨B, μ, F, g, a, q⟩ => ⟨B, μ, F, g, a, (Run.bind q fun _ z => z).mono (fun _ z => z) fun t g1 μ1 F1 H1 f1 r1 q1 v p => by
    have a1 := a.fu f1 (fun _ z => z) r1
    obtain ⟨l, vs, e, rs, k⟩ := p.sq hK r1.sub
    refine ⟨l, vs, by rw [e], k, fun p hp => ?_⟩
    exact Run.ownL q1 a1.gd a1.rg hp p vs (stay_none f1 hp) upd_same (free_of a1.rg.sub hp) (a1.rg.notin hp) rs⟩⟩
def qTuple (t : Bool × List D) : M D := if t.1 = false then pure (.tup t.2) else stuck
theorem pd_tupleq (hK : W.K = X.K) (hm : X.mg "tuple" = none) (h : PDq X W Wx e ρ mq) (hg : Gl X "tuple" := by rfl) (he : starEach [e] X.env = (false, eval e X.env) :: starEach [] X.env := by rfl) : PDe X W Wx (.Call (.Name "tuple" p) [e] [] pos) ρ (b1 qTuple mq) :=
  ⟨PEw (pe_callTy call_tupZ hg hm (by decide +kernel) (pa_cons h.p pa_nil he) (he := he)) fun σ H Q ⟨B, μ, F, g, a, q⟩ => ⟨B, μ, F, g, a, (Run.bind q fun _ z => z).mono (fun _ z => z) fun t g1 μ1 F1 H1 f1 r1 q1 v p => by
    have a1 := a.fu f1 (fun _ z => z) r1
    have q2 : Run W Wx σ.length B μ1 F1 H1 ((if t.1 = false then pure (.tup t.2) else stuck : M D) g1) (fun d _ μ' F' H' => ∀ v, Rep W μ' F' d v → Q v H') := q1
    by_cases c : t.1 = false
    · rw [if_pos c] at q2
      obtain ⟨l, vs, e, rs, k⟩ := p
      rw [c] at k
      have kk : SqL X.K H1 l vs := by
        rcases (show SqL W.K F1 l vs ∨ _ from k) with k | k
        · exact r1.sub.seq (hK ▸ k)
        · exact SqL.of k.1
      exact ⟨l, vs, by rw [e], .inl ⟨kk, fun p o hp ho => Run.laid q2 a1.gd a1.rg hp _ (.newTup ho a1.rg.sub hp rs)⟩⟩
    · rw [if_neg c] at q2
      exact q2.elim⟩⟩
def qRev (t : Bool × List D) : M (List D) := if t.1 = false then pure t.2.reverse else stuck
theorem pn_rev (hK : W.K = X.K) {j : Nat} {p1 p2 p3 : Pos} (h : PDq X W Wx e ρ mq) : PDn X W Wx (.Subscript e (.Slice none none (some (.UnaryOp .USub (.Constant (.int 1) j p1) p2)) p3) pos) ρ (b1 qRev mq) :=
  ⟨PEw (pe_revL h.p) fun σ H Q ⟨B, μ, F, g, a, q⟩ => ⟨B, μ, F, g, a, (Run.bind q fun _ z => z).mono (fun _ z => z) fun t g1 μ1 F1 H1 f1 r1 q1 v p => by
    have a1 := a.fu f1 (fun _ z => z) r1
    have q2 : Run W Wx σ.length B μ1 F1 H1 ((if t.1 = false then pure t.2.reverse else stuck : M (List D)) g1) (fun ds _ μ' F' H' => ∀ l vs, H l = none → H' l = some (.lst vs) → F' l = none → (∀ n : Nat, μ'[n]? ≠ some l) → Reps W μ' F' ds vs → Q (.ref l) H') := q1
    by_cases c : t.1 = false
    · rw [if_pos c] at q2
      obtain ⟨l, vs, e, rs, k⟩ := p
      rw [c] at k
      have kk : SqL X.K H1 l vs := by
        rcases (show SqL W.K F1 l vs ∨ _ from k) with k | k
        · exact r1.sub.seq (hK ▸ k)
        · exact SqL.of k.1
      exact ⟨l, vs, e, kk, fun p hp => Run.ownL q2 a1.gd a1.rg hp p vs.reverse (stay_none f1 hp) upd_same (free_of a1.rg.sub hp) (a1.rg.notin hp) rs.reverse⟩
    · rw [if_neg c] at q2
      exact q2.elim⟩⟩
end
def fInt : List D → M D
  | [.int i] => pure (.int i)
  | [.bl b] => pure (.int (if b then 1 else 0))
  | [.str x] => match PySem.intText? x with
    | some n => if x.length ≤ 640 then pure (.int n) else stuck
    | none => stuck
  | _ => stuck
theorem one_of {μ : List Addr} {F : Hp} {d : D} {vs : List V} (rs : Reps W μ F [d] vs) : ∃ v, vs = [v] ∧ Rep W μ F d v := by
  cases rs with
  | cons r t => cases t; exact ⟨_, rfl, r⟩
theorem two_of {μ : List Addr} {F : Hp} {d e : D} {vs : List V} (rs : Reps W μ F [d, e] vs) : ∃ v w, vs = [v, w] ∧ Rep W μ F d v ∧ Rep W μ F e w := by
  cases rs with
  | cons r t =>
    obtain ⟨w, e1, r2⟩ := one_of t
    exact ⟨_, w, by rw [e1], r, r2⟩
theorem cd_int : CallD W (fun xs H Q => ((∃ i, xs = [.int i] ∧ Q (.int i) H) ∨ ∃ k, xs = [.bl k] ∧ Q (.int (if k then 1 else 0)) H) ∨ ∃ a n, xs = [.str a] ∧ PySem.intText? a = some n ∧ a.length ≤ 640 ∧ Q (.int n) H) fInt := by
  intro B μ F H g ds vs Q Wx n gd rg rs q
  match ds, rs, q with
  | [], _, q => exact q.elim
  | _ :: _ :: _, _, q => exact (by revert q; rename_i d _ _ _; cases d <;> exact fun q => q.elim)
  | [d], rs, q =>
    obtain ⟨v, rfl, r⟩ := one_of rs
    cases r with
    | int i => exact .inl (.inl ⟨_, rfl, Run.pure q gd rg _ (.int _)⟩)
    | bl b => exact .inl (.inr ⟨_, rfl, Run.pure q gd rg _ (.int _)⟩)
    | str x =>
      have q' : Run W Wx n B μ F H ((match PySem.intText? x with | some n => if x.length ≤ 640 then pure (.int n) else stuck | none => stuck : M D) g) (fun d _ μ' F' H' => ∀ v, Rep W μ' F' d v → Q v H') := q
      cases e : PySem.intText? x with
      | none => rw [e] at q'; exact q'.elim
      | some i =>
        rw [e] at q'
        have q2 : Run W Wx n B μ F H ((if x.length ≤ 640 then pure (.int i) else stuck : M D) g) (fun d _ μ' F' H' => ∀ v, Rep W μ' F' d v → Q v H') := q'
        by_cases c : x.length ≤ 640
        · rw [if_pos c] at q2
          exact .inr ⟨x, i, rfl, e, c, Run.pure q2 gd rg _ (.int _)⟩
        · rw [if_neg c] at q2
          exact q2.elim
    | _ => exact q.elim
def fAbs : List D → M D
  | [.int i] => pure (.int (if i < 0 then -i else i))
  | _ => stuck
theorem cd_abs : CallD W (fun xs H Q => ∃ i, xs = [.int i] ∧ Q (.int (if i < 0 then -i else i)) H) fAbs := by
  intro B μ F H g ds vs Q Wx n gd rg rs q
  match ds, rs, q with
  | [], _, q => exact q.elim
  | _ :: _ :: _, _, q => exact (by revert q; rename_i d _ _ _; cases d <;> exact fun q => q.elim)
  | [d], rs, q =>
    obtain ⟨v, rfl, r⟩ := one_of rs
    cases r <;> first | exact q.elim | exact ⟨_, rfl, Run.pure q gd rg _ (.int _)⟩
def fMax2 : List D → M D
  | [.int i, .int j] => pure (.int (if j > i then j else i))
  | _ => stuck
def fMin2 : List D → M D
  | [.int i, .int j] => pure (.int (if j < i then j else i))
  | _ => stuck
theorem cd_two {c : Int → Int → Int} {f : List D → M D} (hf : ∀ i j, f [.int i, .int j] = pure (.int (c i j))) (hn : ∀ ds, (∀ i j, ds ≠ [.int i, .int j]) → f ds = stuck) : CallD W (fun xs H Q => ∃ i j, xs = [.int i, .int j] ∧ Q (.int (c i j)) H) f := by
  intro B μ F H g ds vs Q Wx n gd rg rs q
  by_cases h : ∃ i j, ds = [.int i, .int j]
  · obtain ⟨i, j, rfl⟩ := h
    obtain ⟨v, w, rfl, r1, r2⟩ := two_of rs
    cases r1
    cases r2
    rw [hf] at q
    exact ⟨i, j, rfl, Run.pure q gd rg _ (.int _)⟩
  · rw [hn ds fun i j e => h ⟨i, j, e⟩] at q
    exact q.elim
theorem cd_max2 : CallD W (fun xs H Q => ∃ i j, xs = [.int i, .int j] ∧ Q (.int (if j > i then j else i)) H) fMax2 := cd_two (fun _ _ => rfl) fun ds h => by
  unfold fMax2
  split
  · exact absurd rfl (h _ _)
  · rfl
theorem cd_min2 : CallD W (fun xs H Q => ∃ i j, xs = [.int i, .int j] ∧ Q (.int (if j < i then j else i)) H) fMin2 := cd_two (fun _ _ => rfl) fun ds h => by
  unfold fMin2
  split
  · exact absurd rfl (h _ _)
  · rfl
def fDivmod : List D → M D
  | [.int i, .int j] => if 0 < j ∧ j < 1073741824 then pure (.tup [.int (i / j), .int (i % j)]) else stuck
  | _ => stuck
theorem cd_divmod : CallD W (fun xs H Q => ∃ i j, xs = [.int i, .int j] ∧ CDiv i j ∧ layT H Q [.int (i / j), .int (i % j)]) fDivmod := by
  intro B μ F H g ds vs Q Wx n gd rg rs q
  by_cases h : ∃ i j, ds = [.int i, .int j]
  · obtain ⟨i, j, rfl⟩ := h
    obtain ⟨v, w, rfl, r1, r2⟩ := two_of rs
    cases r1
    cases r2
    have q' : Run W Wx n B μ F H ((if 0 < j ∧ j < 1073741824 then pure (.tup [.int (i / j), .int (i % j)]) else stuck : M D) g) (fun d _ μ' F' H' => ∀ v, Rep W μ' F' d v → Q v H') := q
    by_cases c : 0 < j ∧ j < 1073741824
    · rw [if_pos c] at q'
      exact ⟨i, j, rfl, c, fun p o hp ho => Run.laid q' gd rg hp _ (.newTup ho rg.sub hp (.cons (.int _) (.cons (.int _) .nil)))⟩
    · rw [if_neg c] at q'
      exact q'.elim
  · have e : fDivmod ds = stuck := by
      unfold fDivmod
      split
      · exact absurd ⟨_, _, rfl⟩ h
      · rfl
    rw [e] at q
    exact q.elim
def bools : List D → Option (List Bool)
  | [] => some []
  | .bl b :: r => (bools r).map (b :: ·)
  | _ :: _ => none
theorem bools_of : ∀ {ds : List D} {bs : List Bool}, bools ds = some bs → ds = bs.map D.bl
  | [], bs, h => by cases h; rfl
  | .bl b :: r, bs, h => by
    cases e : bools r with
    | none => rw [bools, e] at h; cases h
    | some cs =>
      rw [bools, e] at h
      cases h
      rw [bools_of e]
      rfl
  | .non :: _, _, h => by cases h
  | .int _ :: _, _, h => by cases h
  | .str _ :: _, _, h => by cases h
  | .tup _ :: _, _, h => by cases h
  | .lst _ :: _, _, h => by cases h
  | .scr _ :: _, _, h => by cases h
  | .dct _ _ :: _, _, h => by cases h
  | .obj _ _ :: _, _, h => by cases h
  | .id _ :: _, _, h => by cases h
def fBools (f : List Bool → Bool) : List D → M D
  | [.lst xs] => match bools xs with
    | some bs => pure (.bl (f bs))
    | none => stuck
  | _ => stuck
theorem cd_bools {f : List Bool → Bool} {K : PySem.W.Frag} : CallD W (fun vs H Q => ∃ (a : Addr) (bs : List Bool), vs = [V.ref a] ∧ SqL K H a (bs.map V.bl) ∧ Q (.bl (f bs)) H) (fBools f) := by
  intro B μ F H g ds vs Q Wx n gd rg rs q
  match ds, rs, q with
  | [], _, q => exact q.elim
  | _ :: _ :: _, _, q => exact (by revert q; rename_i d _ _ _; cases d <;> exact fun q => q.elim)
  | [d], rs, q =>
    obtain ⟨v, rfl, r⟩ := one_of rs
    cases r with
    | @lst a ws xs h r =>
      have q' : Run W Wx n B μ F H ((match bools xs with | some bs => pure (.bl (f bs)) | none => stuck : M D) g) (fun d _ μ' F' H' => ∀ v, Rep W μ' F' d v → Q v H') := q
      cases e : bools xs with
      | none => rw [e] at q'; exact q'.elim
      | some bs =>
        rw [e] at q'
        rw [bools_of e] at r
        have ew := r.bls
        rw [ew] at h
        exact ⟨_, bs, rfl, SqL.of (rg.sub _ _ h), Run.pure q' gd rg _ (.bl _)⟩
    | _ => exact q.elim
def fAll : List D → M D := fBools fun bs => bs.all id
def fAny : List D → M D := fBools fun bs => bs.any id
end
end PD
namespace PD
open PySem PySem.Spec L2
open PyProof.Rows hiding St
inductive Wk : Ro → Ro → Prop
  | n : Wk [] []
  | s {x : SV} {a b : Ro} (h : Wk a b) : Wk (x :: a) (x :: b)
  | u {x : SV} {a b : Ro} (h : Wk a b) : Wk (x :: a) (.un :: b)
theorem Wk.len : ∀ {a b : Ro}, Wk a b → a.length = b.length
  | _, _, .n => rfl
  | _, _, .s h => congrArg Nat.succ (Wk.len h)
  | _, _, .u h => congrArg Nat.succ (Wk.len h)
theorem Wk.at_ : ∀ {a b : Ro} {i : Nat} {x : SV}, Wk a b → b[i]? = some x → a[i]? = some x ∨ x = .un
  | _, _, _, _, .n, e => by simp at e
  | _, _, 0, _, .s _, e => .inl e
  | _, _, 0, _, .u _, e => .inr (Option.some.inj e).symm
  | _, _, i + 1, _, .s h, e => Wk.at_ (i := i) h (by simpa using e) |>.imp (fun z => by simpa using z) id
  | _, _, i + 1, _, .u h, e => Wk.at_ (i := i) h (by simpa using e) |>.imp (fun z => by simpa using z) id
theorem Wk.refl : ∀ {a : Ro}, Wk a a
  | [] => .n
  | _ :: _ => .s Wk.refl
section
variable {W : Wd} {B : Addr → Prop} {μ : List Addr} {F H : Hp} {g : GS} {ρ ρ' : Ro} {σ : L2.St}
theorem Owns.wk {a : Addr} (k : Wk ρ ρ') (h : Owns ρ' σ a) : Owns ρ σ a := by
  obtain ⟨i, x, e, o, e2⟩ := h
  rcases k.at_ e with z | z
  · exact ⟨i, x, z, o, e2⟩
  · subst z
    cases o
theorem Rel.wk (k : Wk ρ ρ') (h : Rel W μ F H ρ σ) : Rel W μ F H ρ' σ := by
  refine ⟨k.len.symm.trans h.len, fun i x o e1 e2 => ?_, fun i j x y v e1 e2 o1 o2 e3 e4 => ?_⟩
  · rcases k.at_ e1 with z | z
    · exact h.at_ i x o z e2
    · subst z
      trivial
  · rcases k.at_ e1 with z | z
    · rcases k.at_ e2 with z2 | z2
      · exact h.own i j x y v z z2 o1 o2 e3 e4
      · subst z2
        cases o2
    · subst z
      cases o1
theorem AtS.wk (k : Wk ρ ρ') (a : AtS W B μ F H g ρ σ) : AtS W B μ F H g ρ' σ := ⟨a.gd, a.rel.wk k, a.rg, fun x z => a.own x (z.wk k)⟩
theorem Owns.set {i : Nat} {x : SV} {v : Option V} {a : Addr} (h : Owns (ρ.set i x) (σ.set i v) a) : (x.own = true ∧ v = some (.ref a)) ∨ Owns ρ σ a := by
  obtain ⟨j, y, e, o, e2⟩ := h
  by_cases hj : i = j
  · subst hj
    rw [List.getElem?_set_self'] at e e2
    cases hr : ρ[i]? with
    | none => rw [hr] at e; cases e
    | some _ =>
      rw [hr] at e
      cases hs : σ[i]? with
      | none => rw [hs] at e2; cases e2
      | some _ =>
        rw [hs] at e2
        cases e
        cases e2
        exact .inl ⟨o, rfl⟩
  · rw [List.getElem?_set_ne hj] at e e2
    exact .inr ⟨j, y, e, o, e2⟩
theorem AtS.setD {i : Nat} {x : D} {v : V} (a : AtS W B μ F H g ρ σ) (r : Rep W μ F x v) : AtS W B μ F H g (ρ.set i (.d x)) (σ.set i (some v)) :=
  ⟨a.gd, a.rel.setD r, a.rg, fun y z => z.set.elim (fun q => by cases q.1) (a.own y)⟩
theorem AtS.setU {i : Nat} {o : Option V} (a : AtS W B μ F H g ρ σ) : AtS W B μ F H g (ρ.set i .un) (σ.set i o) :=
  ⟨a.gd, a.rel.setU, a.rg, fun y z => z.set.elim (fun q => by cases q.1) (a.own y)⟩
theorem AtS.setN {i : Nat} {ds : List D} {vs : List V} {l : Addr} (a : AtS W B μ F H g ρ σ) (no : ¬ Owns ρ σ l) (nB : ¬ B l) (e1 : H l = some (.lst vs)) (e2 : F l = none) (e3 : ∀ n : Nat, μ[n]? ≠ some l) (r : Reps W μ F ds vs) : AtS W B μ F H g (ρ.set i (.ol ds)) (σ.set i (some (.ref l))) := by
  refine ⟨a.gd, a.rel.setO ⟨l, vs, rfl, e1, e2, e3, r⟩ fun j y _ e o q => no ⟨j, y, e, o, q⟩, a.rg, fun y z => ?_⟩
  rcases z.set with ⟨_, q⟩ | z
  · cases q
    exact nB
  · exact a.own y z
theorem AtS.setM {i : Nat} {ks : List Key} {ds : List D} {kvs : List (Key × V)} {l : Addr} (a : AtS W B μ F H g ρ σ) (no : ¬ Owns ρ σ l) (nB : ¬ B l) (e1 : H l = some (.dK kvs)) (e2 : F l = none) (e3 : ∀ n : Nat, μ[n]? ≠ some l) (ek : kvs.map (·.1) = ks) (r : Reps W μ F ds (kvs.map (·.2))) :
    AtS W B μ F H g (ρ.set i (.od ks ds)) (σ.set i (some (.ref l))) := by
  refine ⟨a.gd, a.rel.setO ⟨l, kvs, rfl, e1, e2, e3, ek, r⟩ fun j y _ e o q => no ⟨j, y, e, o, q⟩, a.rg, fun y z => ?_⟩
  rcases z.set with ⟨_, q⟩ | z
  · cases q
    exact nB
  · exact a.own y z
theorem AtS.write {i : Nat} {x y : SV} {l : Addr} {o : HO} (a : AtS W B μ F H g ρ σ) (ei : ρ[i]? = some x) (ox : x.own = true) (ey : y.own = true) (es : σ[i]? = some (some (.ref l))) (ny : SlotAt W μ F (upd H l o) y (some (.ref l))) :
    Fu B μ F H μ F (upd H l o) ∧ AtS W B μ F (upd H l o) g (ρ.set i y) σ := by
  have ow : Owns ρ σ l := ⟨i, x, ei, ox, es⟩
  have nB := a.own l ow
  obtain ⟨fl, hl, nm⟩ := a.rel.ownAt ow
  have il : i < σ.length := by
    rw [← a.rel.len]
    exact (List.getElem?_eq_some_iff.mp ei).1
  have key : ∀ (j : Nat) z, (ρ.set i y)[j]? = some z → (j = i ∧ z = y) ∨ (j ≠ i ∧ ρ[j]? = some z) := by
    intro j z e
    by_cases hj : i = j
    · subst hj
      rw [List.getElem?_set_self', ei] at e
      cases e
      exact .inl ⟨rfl, rfl⟩
    · rw [List.getElem?_set_ne hj] at e
      exact .inr ⟨fun q => hj q.symm, e⟩
  have ownsame : ∀ b, Owns (ρ.set i y) σ b → Owns ρ σ b := by
    rintro b ⟨j, z, e1, e2, e3⟩
    rcases key j z e1 with ⟨rfl, rfl⟩ | ⟨_, e1⟩
    · exact ⟨j, x, ei, ox, e3⟩
    · exact ⟨j, z, e1, e2, e3⟩
  have gd' : Guard B F (upd H l o) := fun b z => ⟨(a.gd b z).1, by
    rw [upd_ne (fun q => nB (by rw [← q]; exact z))]
    exact (a.gd b z).2⟩
  refine ⟨⟨.refl, fun _ _ _ h => .inl h, .refl F, fun b u hb e _ => ?_, fun b z => (a.gd b z).1, fun b z => ?_⟩, gd', ⟨?_, fun j z w e1 e2 => ?_, fun j k z w v e1 e2 o1 o2 e3 e4 => ?_⟩, ?_, fun b z => a.own b (ownsame b z)⟩
  · rw [upd_ne (fun q => nB (by rw [← q]; exact hb))]
    exact e
  · by_cases q : b = l
    · subst q
      rw [upd_same]
      simp
    · rw [upd_ne q]
      exact z
  · rw [List.length_set]
    exact a.rel.len
  · rcases key j z e1 with ⟨rfl, rfl⟩ | ⟨hj, e1⟩
    · rw [es] at e2
      cases e2
      exact ny
    · have h := a.rel.at_ j z w e1 e2
      cases z with
      | un => trivial
      | d d => exact h
      | ol xs =>
        obtain ⟨m, vs, q1, q2, q3⟩ := h
        have ne : m ≠ l := fun q => hj (a.rel.own j i _ _ _ e1 ei rfl ox (by rw [e2, q1, q]) es)
        exact ⟨m, vs, q1, by rw [upd_ne ne]; exact q2, q3⟩
      | od ks xs =>
        obtain ⟨m, vs, q1, q2, q3⟩ := h
        have ne : m ≠ l := fun q => hj (a.rel.own j i _ _ _ e1 ei rfl ox (by rw [e2, q1, q]) es)
        exact ⟨m, vs, q1, by rw [upd_ne ne]; exact q2, q3⟩
  · rcases key j z e1 with ⟨q1, q2⟩ | ⟨hj, q1⟩ <;> rcases key k w e2 with ⟨p1, p2⟩ | ⟨hk, p1⟩
    · rw [q1, p1]
    · rw [q1] at e3 ⊢
      exact a.rel.own i k x w v ei p1 ox o2 e3 e4
    · rw [p1] at e4 ⊢
      exact a.rel.own j i z x v q1 ei o1 ox e3 e4
    · exact a.rel.own j k z w v q1 p1 o1 o2 e3 e4
  · exact ⟨fun b u e => by
      rw [upd_ne (ne_of_none e fl)]
      exact a.rg.sub b u e, a.rg.len, a.rg.nd, a.rg.out, fun n b u e1 e2 => (a.rg.at_ n b u e1 e2).fu .refl (.refl F) fun z q => by
        have ne : b ≠ l := fun q => nm n (by rw [e1, q])
        rw [upd_ne ne]
        exact q⟩
theorem AtS.froz {i : Nat} {xs : List D} (a : AtS W B μ F H g ρ σ) (ei : ρ[i]? = some (.ol xs)) : ∃ F', Fu B μ F H μ F' H ∧ AtS W B μ F' H g (ρ.set i (.d (.lst xs))) σ := by
  have il : i < σ.length := by
    rw [← a.rel.len]
    exact (List.getElem?_eq_some_iff.mp ei).1
  obtain ⟨l, vs, e, e1, e2, nm, r⟩ := a.rel.at_ i _ _ ei (List.getElem?_eq_getElem il)
  have es : σ[i]? = some (some (.ref l)) := by rw [List.getElem?_eq_getElem il, e]
  have ow : Owns ρ σ l := ⟨i, _, ei, rfl, es⟩
  have nB := a.own l ow
  have fr : Same F (upd F l (.lst vs)) := fun b u q => by
    rw [upd_ne (ne_of_none q e2)]
    exact q
  have fu := Fu.froz (μ := μ) (B := B) (o := .lst vs) a.gd e1 e2 nB
  have key : ∀ (j : Nat) z, (ρ.set i (.d (.lst xs)))[j]? = some z → (j = i ∧ z = .d (.lst xs)) ∨ (j ≠ i ∧ ρ[j]? = some z) := by
    intro j z e
    by_cases hj : i = j
    · subst hj
      rw [List.getElem?_set_self', ei] at e
      cases e
      exact .inl ⟨rfl, rfl⟩
    · rw [List.getElem?_set_ne hj] at e
      exact .inr ⟨fun q => hj q.symm, e⟩
  refine ⟨_, fu, fun b z => ⟨fu.out b z, (a.gd b z).2⟩, ⟨by rw [List.length_set]; exact a.rel.len, fun j z w q1 q2 => ?_, fun j k z w v q1 q2 o1 o2 q3 q4 => ?_⟩, a.rg.froz e1 e2 nm, fun b z => ?_⟩
  · rcases key j z q1 with ⟨rfl, rfl⟩ | ⟨hj, q1⟩
    · rw [es] at q2
      cases q2
      exact ⟨_, rfl, .lst upd_same (r.mono .refl fr)⟩
    · have h := a.rel.at_ j z w q1 q2
      cases z with
      | un => trivial
      | d d =>
        obtain ⟨v, p1, p2⟩ := h
        exact ⟨v, p1, p2.mono .refl fr⟩
      | ol ys =>
        obtain ⟨m, ws, p1, p2, p3, p4, p5⟩ := h
        have ne : m ≠ l := fun q => hj (a.rel.own j i _ _ _ q1 ei rfl rfl (by rw [q2, p1, q]) es)
        exact ⟨m, ws, p1, p2, by rw [upd_ne ne]; exact p3, p4, p5.mono .refl fr⟩
      | od ks ys =>
        obtain ⟨m, ws, p1, p2, p3, p4, p5, p6⟩ := h
        have ne : m ≠ l := fun q => hj (a.rel.own j i _ _ _ q1 ei rfl rfl (by rw [q2, p1, q]) es)
        exact ⟨m, ws, p1, p2, by rw [upd_ne ne]; exact p3, p4, p5, p6.mono .refl fr⟩
  · rcases key j z q1 with ⟨rfl, rfl⟩ | ⟨hj, q1⟩
    · cases o1
    · rcases key k w q2 with ⟨rfl, rfl⟩ | ⟨hk, q2⟩
      · cases o2
      · exact a.rel.own j k z w v q1 q2 o1 o2 q3 q4
  · obtain ⟨j, y, q1, q2, q3⟩ := z
    rcases key j y q1 with ⟨rfl, rfl⟩ | ⟨hj, q1⟩
    · cases q2
    · exact a.own b ⟨j, y, q1, q2, q3⟩
end
section
variable {X : Cx} {W : Wd} {Wx : WX} {ρ : Ro} {S T : Type} {mk : S → Ro} {rest : List Stmt}
theorem ds_nil {s : S} (h : Wk ρ (mk s)) : PDs X W Wx [] ρ mk (pure (.nx s)) :=
  ⟨PSsw pss_nil fun D σ H ⟨B, μ, F, g, a, q⟩ => Run.pure (a := Fl.nx s) q a.gd a.rg σ rfl (a.wk h)⟩
theorem ds_last {st : Stmt} {m : M (Fl S)} (h : PD1 X W Wx st ρ mk m) : PDs X W Wx [st] ρ mk m := ⟨pss_one h.p⟩
def seqF (m : M (Fl T)) (k : T → M (Fl S)) : M (Fl S) := m >>= fun r => match r with
  | .nx t => k t
  | .ret d => pure (.ret d)
  | .bk _ => stuck
  | .ct _ => stuck
theorem ds_seq {st : Stmt} {mkT : T → Ro} {m : M (Fl T)} {k : T → M (Fl S)} (h1 : PD1 X W Wx st ρ mkT m) (h2 : ∀ t, PDs X W Wx rest (mkT t) mk (k t)) : PDs X W Wx (st :: rest) ρ mk (seqF m k) := by
  refine ⟨PSsw (pss_cons h1.p (u := fun D σ H => ∃ t, tS W Wx (mkT t) mk (k t) D σ H) ⟨fun pins s σ H D I ⟨t, q⟩ => (h2 t).p.run pins s σ H D I q⟩) ?_⟩
  intro D σ H ⟨B, μ, F, g, a, q⟩
  refine ⟨B, μ, F, g, a, (Run.bind q fun _ z => z).mono (fun _ z => z) fun r g1 μ1 F1 H1 f1 r1 q1 => ?_⟩
  cases r with
  | nx t =>
    intro σ1 e a1
    exact ⟨t, B, μ1, F1, g1, a1, by rw [e]; exact q1⟩
  | ret d => exact Run.pure (a := (Fl.ret d : Fl S)) q1 (a.gd.fu f1 fun _ z => z) r1
  | bk t => exact q1.elim
  | ct t => exact q1.elim
def mRet (m : M D) : M (Fl S) := m >>= fun d => pure (.ret d)
theorem d1_ret {e : Expr} {m : M D} {pos : Pos} (h : PDe X W Wx e ρ m) : PD1 X W Wx (.Return (some e) pos) ρ mk (mRet m) :=
  ⟨PSw (ps_ret h.p) fun D σ H ⟨B, μ, F, g, a, q⟩ => ⟨_, μ, F, g, a.at_, (Run.bind q fun _ z => .inl z).mono (fun _ z => z) fun d g1 μ1 F1 H1 f1 r1 q1 v p =>
    Run.pure (a := (Fl.ret d : Fl S)) q1 (a.gd.fu f1 fun _ z => .inl z) r1 v p⟩⟩
theorem d1_retN {pos : Pos} : PD1 X W Wx (.Return none pos) ρ mk (pure (.ret .non)) :=
  ⟨PSw ps_retN fun D σ H ⟨B, μ, F, g, a, q⟩ => Run.pure (a := (Fl.ret PD.D.non : Fl S)) q a.gd a.rg .non .non⟩
theorem d1_pass {s : S} {pos : Pos} (h : Wk ρ (mk s)) : PD1 X W Wx (.Pass pos) ρ mk (pure (.nx s)) :=
  ⟨PSw ps_pass fun D σ H ⟨B, μ, F, g, a, q⟩ => Run.pure (a := Fl.nx s) q a.gd a.rg σ rfl (a.wk h)⟩
theorem d1_break {s : S} {pos : Pos} (h : Wk ρ (mk s)) : PD1 X W Wx (.Break pos) ρ mk (pure (.bk s)) :=
  ⟨PSw ps_break fun D σ H ⟨B, μ, F, g, a, q⟩ => Run.pure (a := Fl.bk s) q a.gd a.rg σ rfl (a.wk h)⟩
theorem d1_continue {s : S} {pos : Pos} (h : Wk ρ (mk s)) : PD1 X W Wx (.Continue pos) ρ mk (pure (.ct s)) :=
  ⟨PSw ps_continue fun D σ H ⟨B, μ, F, g, a, q⟩ => Run.pure (a := Fl.ct s) q a.gd a.rg σ rfl (a.wk h)⟩
theorem d1_if {c : Expr} {p q : List Stmt} {l : M Bool} {m k : M (Fl S)} {pos : Pos} (hc : PDt X W Wx c ρ l) (hp : PDs X W Wx p ρ mk m) (hq : PDs X W Wx q ρ mk k) : PD1 X W Wx (.If c p q pos) ρ mk (mIf l m k) :=
  ⟨PSw (ps_if hc.p hp.p hq.p) fun D σ H ⟨B, μ, F, g, a, q⟩ => ⟨_, μ, F, g, a.at_, (Run.bind q fun _ z => .inl z).mono (fun _ z => z) fun b g1 μ1 F1 H1 f1 r1 q1 => by
    have a1 := a.fu f1 (fun _ z => z) r1
    cases b with
    | true => exact (⟨B, μ1, F1, g1, a1, q1⟩ : tS W Wx ρ mk m D σ H1)
    | false => exact (⟨B, μ1, F1, g1, a1, q1⟩ : tS W Wx ρ mk k D σ H1)⟩⟩
theorem d1_never {st : Stmt} : PD1 X W Wx st ρ mk stuck := ⟨PSw ps_never fun D σ H ⟨B, μ, F, g, a, q⟩ => q.elim⟩
theorem ds_never : PDs X W Wx rest ρ mk stuck := ⟨PSsw pss_never fun D σ H ⟨B, μ, F, g, a, q⟩ => q.elim⟩
theorem ds_expr {e : Expr} {m : M D} {k : M (Fl S)} {pos : Pos} (h : PDe X W Wx e ρ m) (hr : PDs X W Wx rest ρ mk k) (hs : swapsWith e none pos.line X.env = pure false := by rfl) : PDs X W Wx (.Expr e pos :: rest) ρ mk (m >>= fun _ => k) :=
  ⟨PSsw (pss_cons (ps_expr h.p hs) hr.p) fun D σ H ⟨B, μ, F, g, a, q⟩ => ⟨_, μ, F, g, a.at_, (Run.bind q fun _ z => .inl z).mono (fun _ z => z) fun d g1 μ1 F1 H1 f1 r1 q1 v p =>
    ⟨B, μ1, F1, g1, a.fu f1 (fun _ z => z) r1, q1⟩⟩⟩
theorem ds_doc {x : Str} {j : Nat} {pos pos' : Pos} {k : M (Fl S)} (hr : PDs X W Wx rest ρ mk k) : PDs X W Wx (.Expr (.Constant (.str x) j pos) pos' :: rest) ρ mk k :=
  ⟨PSsw (pss_cons ps_doc hr.p) fun D σ H q => q⟩
theorem ds_froz (i : Nat) {xs : List D} {m : M (Fl S)} (hr : ρ[i]? = some (.ol xs)) (h : PDs X W Wx rest (ρ.set i (.d (.lst xs))) mk m) : PDs X W Wx rest ρ mk m :=
  ⟨PSsw h.p fun D σ H ⟨B, μ, F, g, a, q⟩ => by
    obtain ⟨F1, f1, a1⟩ := a.froz hr
    exact ⟨B, μ, F1, g, a1, q.later f1 fun _ z => z⟩⟩
theorem d1_froz (i : Nat) {st : Stmt} {xs : List D} {m : M (Fl S)} (hr : ρ[i]? = some (.ol xs)) (h : PD1 X W Wx st (ρ.set i (.d (.lst xs))) mk m) : PD1 X W Wx st ρ mk m :=
  ⟨PSw h.p fun D σ H ⟨B, μ, F, g, a, q⟩ => by
    obtain ⟨F1, f1, a1⟩ := a.froz hr
    exact ⟨B, μ, F1, g, a1, q.later f1 fun _ z => z⟩⟩
theorem ds_wk {ρ' : Ro} {m : M (Fl S)} (k : Wk ρ ρ') (h : PDs X W Wx rest ρ' mk m) : PDs X W Wx rest ρ mk m :=
  ⟨PSsw h.p fun D σ H ⟨B, μ, F, g, a, q⟩ => ⟨B, μ, F, g, a.wk k, q⟩⟩
def NewAt (W : Wd) (μ : List Addr) (F H H0 : Hp) : SV → V → Prop
  | .un, _ => False
  | .d x, v => Rep W μ F x v
  | .ol xs, v => ∃ l vs, v = .ref l ∧ H0 l = none ∧ H l = some (.lst vs) ∧ F l = none ∧ (∀ n : Nat, μ[n]? ≠ some l) ∧ Reps W μ F xs vs
  | .od ks xs, v => ∃ l kvs, v = .ref l ∧ H0 l = none ∧ H l = some (.dK kvs) ∧ F l = none ∧ (∀ n : Nat, μ[n]? ≠ some l) ∧ kvs.map (·.1) = ks ∧ Reps W μ F xs (kvs.map (·.2))
def tX {α : Type} (W : Wd) (Wx : WX) (ρ : Ro) (m : M α) (sv : α → SV) : TE := fun σ H Q => ∃ (B : Addr → Prop) (μ : List Addr) (F : Hp) (g : GS), At W B μ F H g ρ σ ∧ Run W Wx σ.length B μ F H (m g) fun x _ μ' F' H' => ∀ v, NewAt W μ' F' H' H (sv x) v → Q v H'
structure PDx {α : Type} (X : Cx) (W : Wd) (Wx : WX) (e : Expr) (ρ : Ro) (m : M α) (sv : α → SV) : Prop where
  p : PE X e (tX W Wx ρ m sv)
theorem dx_e {e : Expr} {m : M D} (h : PDe X W Wx e ρ m) : PDx X W Wx e ρ m SV.d := ⟨h.p⟩
theorem dx_n {e : Expr} {m : M (List D)} (h : PDn X W Wx e ρ m) : PDx X W Wx e ρ m SV.ol :=
  ⟨PEw h.p fun σ H Q ⟨B, μ, F, g, a, q⟩ => ⟨B, μ, F, g, a, q.mono (fun _ z => z) fun x g1 μ1 F1 H1 f1 r1 q1 l vs e1 e2 e3 e4 rs => q1 _ ⟨l, vs, rfl, e1, e2, e3, e4, rs⟩⟩⟩
theorem AtS.setX {B : Addr → Prop} {μ μ1 : List Addr} {F F1 H H1 : Hp} {g g1 : GS} {σ : L2.St} {i : Nat} {x : SV} {v : V} (a : AtS W B μ F H g ρ σ) (a1 : AtS W B μ1 F1 H1 g1 ρ σ) (h : NewAt W μ1 F1 H1 H x v) : AtS W B μ1 F1 H1 g1 (ρ.set i x) (σ.set i (some v)) := by
  have no : ∀ l, H l = none → ¬ Owns ρ σ l := fun l hl o => (a.rel.ownAt o).2.1 hl
  have nB : ∀ l, H l = none → ¬ B l := fun l hl o => (a.gd l o).2 hl
  cases x with
  | un => exact h.elim
  | d x => exact a1.setD h
  | ol xs =>
    obtain ⟨l, vs, rfl, e0, e1, e2, e3, r⟩ := h
    exact a1.setN (no l e0) (nB l e0) e1 e2 e3 r
  | od ks xs =>
    obtain ⟨l, kvs, rfl, e0, e1, e2, e3, e4, r⟩ := h
    exact a1.setM (no l e0) (nB l e0) e1 e2 e3 e4 r
section
variable {α β : Type} {sv : α → SV} {sw : β → SV} {m : M α} {n : M β}
theorem ds_set (i : Nat) {x : Str} {e : Expr} {k : α → M (Fl S)} {pos pos' : Pos} (hN : X.N.Nodup) (h : PDx X W Wx e ρ m sv) (hr : ∀ y, PDs X W Wx rest (ρ.set i (sv y)) mk (k y)) (hi : X.N[i]? = some x := by rfl) (hx : Loc X.env.scope x := by first | exact .inl rfl | exact .inr rfl)
    (hs : swapsWith e (some (.Name x pos')) pos.line X.env = pure false := by rfl) (hf : X.fn x = true ∨ X.env.scope.names.lookup x = some .local := by first | exact .inl rfl | exact .inr rfl) : PDs X W Wx (.Assign [.Name x pos'] e pos :: rest) ρ mk (m >>= k) := by
  refine ⟨PSsw (pss_cons (ps_set hN hi hx h.p hs (hf := hf)) (u := fun D σ H => ∃ y, tS W Wx (ρ.set i (sv y)) mk (k y) D σ H) ⟨fun pins s σ H D I ⟨t, q⟩ => (hr t).p.run pins s σ H D I q⟩) ?_⟩
  intro D σ H ⟨B, μ, F, g, a, q⟩
  refine ⟨_, μ, F, g, a.at_, (Run.bind q fun _ z => .inl z).mono (fun _ z => z) fun y g1 μ1 F1 H1 f1 r1 q1 v p => ?_⟩
  exact ⟨y, B, μ1, F1, g1, a.setX (a.fu f1 (fun _ z => z) r1) p, by rw [List.length_set]; exact q1⟩
theorem NewAt.fu {B : Addr → Prop} {μ μ' : List Addr} {F F' H H' H0 : Hp} {x : SV} {v : V} (f : Fu B μ F H μ' F' H') (hB : ∀ l, x.own = true → v = .ref l → B l) (h : NewAt W μ F H H0 x v) : NewAt W μ' F' H' H0 x v := by
  cases x with
  | un => exact h.elim
  | d x => exact Rep.mono f.grow f.fro h
  | ol xs =>
    obtain ⟨l, vs, rfl, e0, e1, e2, e3, r⟩ := h
    have b := hB l rfl rfl
    exact ⟨l, vs, rfl, e0, f.keep _ _ b e1 e3, f.out l b, (fun n q => (f.new n l b q).elim (e3 n) (fun z => (by rw [e1] at z; cases z))), r.mono f.grow f.fro⟩
  | od ks xs =>
    obtain ⟨l, kvs, rfl, e0, e1, e2, e3, e4, r⟩ := h
    have b := hB l rfl rfl
    exact ⟨l, kvs, rfl, e0, f.keep _ _ b e1 e3, f.out l b, (fun n q => (f.new n l b q).elim (e3 n) (fun z => (by rw [e1] at z; cases z))), e4, r.mono f.grow f.fro⟩
theorem two_core {e1 e2 : Expr} (h1 : PDx X W Wx e1 ρ m sv) (h2 : PDx X W Wx e2 ρ n sw) (s1 : starEach [e1, e2] X.env = (false, eval e1 X.env) :: starEach [e2] X.env) (s2 : starEach [e2] X.env = (false, eval e2 X.env) :: starEach [] X.env) : ∃ ta, PA X [e1, e2] ta ∧
    ∀ {γ : Type} (k : α → β → M γ) (B : Addr → Prop) (μ : List Addr) (F H : Hp) (g : GS) (σ : L2.St) (P : γ → GS → List Addr → Hp → Hp → Prop) (Q : List V → Hp → Prop), AtS W B μ F H g ρ σ → Run W Wx σ.length B μ F H ((m >>= fun x => n >>= fun y => k x y) g) P →
      (∀ x y v w μ2 F2 H2 g2, Fu B μ F H μ2 F2 H2 → AtS W B μ2 F2 H2 g2 ρ σ → NewAt W μ2 F2 H2 H (sv x) v → NewAt W μ2 F2 H2 H (sw y) w → ((sv x).own = true → (sw y).own = true → v ≠ w) → Run W Wx σ.length B μ2 F2 H2 (k x y g2) P → Q [v, w] H2) → ta σ H Q := by
  refine ⟨_, pa_cons h1.p (pa_cons h2.p pa_nil s2) s1, ?_⟩
  intro γ k B μ F H g σ P Q a q kk
  refine ⟨_, μ, F, g, a.at_, (Run.bind q fun _ z => .inl z).mono (fun _ z => z) fun x g1 μ1 F1 H1 f1 r1 q1 v p1 => ?_⟩
  have a1 := a.fu f1 (fun _ z => z) r1
  -- the first value is guarded, too
  let B1 : Addr → Prop := fun b => (B b ∨ Owns ρ σ b) ∨ ((sv x).own = true ∧ v = .ref b)
  have own1 : ∀ l, (sv x).own = true → v = .ref l → H l = none ∧ F1 l = none ∧ H1 l ≠ none := by
    intro l o e
    cases hx : sv x with
    | un => rw [hx] at o; cases o
    | d d => rw [hx] at o; cases o
    | ol xs =>
      rw [hx] at p1
      obtain ⟨l', vs, e', z0, z1, z2, _⟩ := p1
      rw [e] at e'
      cases e'
      exact ⟨z0, z2, by rw [z1]; simp⟩
    | od ks xs =>
      rw [hx] at p1
      obtain ⟨l', vs, e', z0, z1, z2, _⟩ := p1
      rw [e] at e'
      cases e'
      exact ⟨z0, z2, by rw [z1]; simp⟩
  have at1 : At W B1 μ1 F1 H1 g1 ρ σ := ⟨fun b z => z.elim (fun z => a1.at_.gd b z) fun z => ⟨(own1 b z.1 z.2).2.1, (own1 b z.1 z.2).2.2⟩, a1.rel, a1.rg, fun b z => .inl (.inr z)⟩
  refine ⟨B1, μ1, F1, g1, at1, (Run.bind q1 fun _ z => .inl (.inl z)).mono (fun _ z => z) fun y g2 μ2 F2 H2 f2 r2 q2 w p2 => ?_⟩
  have a2 := a1.fu f2 (fun _ z => .inl z) r2
  refine kk x y v w μ2 F2 H2 g2 ((f1.less fun _ z => .inl z).trans f2 fun _ z => .inl (.inl z)) a2 (p1.fu f2 fun l o e => .inr ⟨o, e⟩) ?_ ?_ q2
  · cases hy : sw y with
    | un => rw [hy] at p2; exact p2.elim
    | d d => rw [hy] at p2; exact p2
    | ol xs =>
      rw [hy] at p2
      obtain ⟨l, vs, e, z0, z⟩ := p2
      exact ⟨l, vs, e, stay_none f1 z0, z⟩
    | od ks xs =>
      rw [hy] at p2
      obtain ⟨l, vs, e, z0, z⟩ := p2
      exact ⟨l, vs, e, stay_none f1 z0, z⟩
  · intro o1 o2 e
    have : ∀ l, w = .ref l → H1 l = none := by
      intro l el
      cases hy : sw y with
      | un => rw [hy] at o2; cases o2
      | d d => rw [hy] at o2; cases o2
      | ol xs =>
        rw [hy] at p2
        obtain ⟨l', vs, e', z0, z⟩ := p2
        rw [el] at e'
        cases e'
        exact z0
      | od ks xs =>
        rw [hy] at p2
        obtain ⟨l', vs, e', z0, z⟩ := p2
        rw [el] at e'
        cases e'
        exact z0
    cases hx : sv x with
    | un => rw [hx] at o1; cases o1
    | d d => rw [hx] at o1; cases o1
    | ol xs =>
      rw [hx] at p1
      obtain ⟨l', vs, e', z0, z1, _⟩ := p1
      have := this l' (by rw [← e, e'])
      rw [z1] at this
      cases this
    | od ks xs =>
      rw [hx] at p1
      obtain ⟨l', vs, e', z0, z1, _⟩ := p1
      have := this l' (by rw [← e, e'])
      rw [z1] at this
      cases this
end
end
end PD
namespace PD
open PySem PySem.Spec L2
open PyProof.Rows hiding St
section
variable {X : Cx} {W : Wd} {Wx : WX} {ρ : Ro} {S T : Type} {mk : S → Ro} {rest : List Stmt}
section
variable {α β : Type} {sv : α → SV} {sw : β → SV} {m : M α} {n : M β}
theorem AtS.setX2 {B : Addr → Prop} {μ μ1 : List Addr} {F F1 H H1 : Hp} {g g1 : GS} {σ : L2.St} {i j : Nat} {x y : SV} {v w : V} (a : AtS W B μ F H g ρ σ) (a1 : AtS W B μ1 F1 H1 g1 ρ σ) (hij : i ≠ j) (h : NewAt W μ1 F1 H1 H x v) (h2 : NewAt W μ1 F1 H1 H y w) (ne : x.own = true → y.own = true → v ≠ w) :
    AtS W B μ1 F1 H1 g1 ((ρ.set i x).set j y) ((σ.set i (some v)).set j (some w)) := by
  have b1 := a.setX a1 h (i := i)
  have nB : ∀ l, H l = none → ¬ B l := fun l hl o => (a.gd l o).2 hl
  have no : ∀ l, H l = none → y.own = true → w = .ref l → ¬ Owns (ρ.set i x) (σ.set i (some v)) l := fun l hl oy e o => by
    rcases o.set with ⟨o1, e1⟩ | o
    · exact ne o1 oy (by rw [e]; exact Option.some.inj e1)
    · exact (a.rel.ownAt o).2.1 hl
  cases y with
  | un => exact h2.elim
  | d x => exact b1.setD h2
  | ol xs =>
    obtain ⟨l, vs, rfl, e0, e1, e2, e3, r⟩ := h2
    exact b1.setN (no l e0 rfl rfl) (nB l e0) e1 e2 e3 r
  | od ks xs =>
    obtain ⟨l, kvs, rfl, e0, e1, e2, e3, e4, r⟩ := h2
    exact b1.setM (no l e0 rfl rfl) (nB l e0) e1 e2 e3 e4 r
def mTwo {γ : Type} (m : M α) (n : M β) (k : α → β → M γ) : M γ := m >>= fun x => n >>= fun y => k x y
theorem ds_par (i j : Nat) {x y : Str} {e1 e2 : Expr} {k : α → β → M (Fl S)} {px py pt pos : Pos} {kt k2 : Nat} {pt2 : Pos} (hc : X.calm = true) (hN : X.N.Nodup) (h1 : PDx X W Wx e1 ρ m sv) (h2 : PDx X W Wx e2 ρ n sw) (hr : ∀ a b, PDs X W Wx rest ((ρ.set i (sv a)).set j (sw b)) mk (k a b))
    (hij : i ≠ j := by decide) (hi : X.N[i]? = some x := by rfl) (hj : X.N[j]? = some y := by rfl) (hx : X.env.scope.names.lookup x = some .local := by rfl) (hy : X.env.scope.names.lookup y = some .local := by rfl)
    (hw : swappedStores [.Tuple [.Name x px, .Name y py] kt pt] (.Tuple [e1, e2] k2 pt2) X.env = pure (some [x, y]) := by rfl) (hs : swapsWithSole [.Tuple [.Name x px, .Name y py] kt pt] (.Tuple [e1, e2] k2 pt2) pos.line X.env = pure false := by rfl)
    (s1 : starEach [e1, e2] X.env = (false, eval e1 X.env) :: starEach [e2] X.env := by rfl) (s2 : starEach [e2] X.env = (false, eval e2 X.env) :: starEach [] X.env := by rfl) :
    PDs X W Wx (.Assign [.Tuple [.Name x px, .Name y py] kt pt] (.Tuple [e1, e2] k2 pt2) pos :: rest) ρ mk (mTwo m n k) := by
  obtain ⟨ta, ha, hta⟩ := two_core h1 h2 s1 s2
  refine ⟨PSsw (pss_cons (ps_par hc hN hi hj hij hx hy ha hw hs) (u := fun D σ H => ∃ a b, tS W Wx ((ρ.set i (sv a)).set j (sw b)) mk (k a b) D σ H) ⟨fun pins s σ H D I ⟨a, b, q⟩ => (hr a b).p.run pins s σ H D I q⟩) ?_⟩
  intro D σ H ⟨B, μ, F, g, a, q⟩
  refine hta k B μ F H g σ _ _ a q fun c d v w μ2 F2 H2 g2 f2 a2 p1 p2 ne q2 => ?_
  exact ⟨v, w, rfl, c, d, B, μ2, F2, g2, a.setX2 a2 hij p1 p2 ne, by rw [List.length_set, List.length_set]; exact q2⟩
theorem ds_parC (i j : Nat) {x y : Str} {e1 e2 : Expr} {k : α → β → M (Fl S)} {px py pt pos : Pos} {kt k2 : Nat} {pt2 : Pos} (hc : X.calm = true) (hN : X.N.Nodup) (h1 : PDx X W Wx e1 ρ m sv) (h2 : PDx X W Wx e2 ρ n sw) (hr : ∀ a b, PDs X W Wx rest ((ρ.set i (sv a)).set j (sw b)) mk (k a b))
    (hij : i ≠ j := by decide) (hi : X.N[i]? = some x := by rfl) (hj : X.N[j]? = some y := by rfl) (hx : Loc X.env.scope x := by first | exact .inl rfl | exact .inr rfl) (hy : Loc X.env.scope y := by first | exact .inl rfl | exact .inr rfl)
    (hw : swappedStores [.Tuple [.Name x px, .Name y py] kt pt] (.Tuple [e1, e2] k2 pt2) X.env = pure none := by rfl) (hs : swapsWithSole [.Tuple [.Name x px, .Name y py] kt pt] (.Tuple [e1, e2] k2 pt2) pos.line X.env = pure false := by rfl)
    (s1 : starEach [e1, e2] X.env = (false, eval e1 X.env) :: starEach [e2] X.env := by rfl) (s2 : starEach [e2] X.env = (false, eval e2 X.env) :: starEach [] X.env := by rfl)
    (hn1 : (assignEach [.Name x px, .Name y py] X.env).length = 2 := by rfl) (hst : (assignEach [.Name x px, .Name y py] X.env).findIdx? (·.1) = none := by rfl)
    (hf : X.fn x = true ∨ X.env.scope.names.lookup x = some .local := by first | exact .inl rfl | exact .inr rfl) (hf2 : X.fn y = true ∨ X.env.scope.names.lookup y = some .local := by first | exact .inl rfl | exact .inr rfl) :
    PDs X W Wx (.Assign [.Tuple [.Name x px, .Name y py] kt pt] (.Tuple [e1, e2] k2 pt2) pos :: rest) ρ mk (mTwo m n k) := by
  obtain ⟨ta, ha, hta⟩ := two_core h1 h2 s1 s2
  have pg : PG X (.Tuple [.Name x px, .Name y py] kt pt) (gTup X.K 2 (gCons (gName i) (gCons (gName j) gNil))) := pg_tup hc (pgs_cons (pg_name hN hi hx (hf := hf)) (pgs_cons (pg_name hN hj hy (hf := hf2)) pgs_nil)) hn1 hst
  refine ⟨PSsw (pss_cons (ps_asg (pe_tup ha) pg hs hw) (u := fun D σ H => ∃ a b, tS W Wx ((ρ.set i (sv a)).set j (sw b)) mk (k a b) D σ H) ⟨fun pins s σ H D I ⟨a, b, q⟩ => (hr a b).p.run pins s σ H D I q⟩) ?_⟩
  intro D σ H ⟨B, μ, F, g, a, q⟩
  refine hta k B μ F H g σ _ _ a q fun c d v w μ2 F2 H2 g2 f2 a2 p1 p2 ne q2 => ?_
  refine ⟨by show 2 ≤ sizeLine; decide, fun p hp => ⟨p, [v, w], rfl, SqT.of upd_same, rfl, v, [w], rfl, w, [], rfl, rfl, ?_⟩⟩
  -- the tuple is laid and left
  have keep : ∀ {z : SV} {u : V}, NewAt W μ2 F2 H2 H z u → NewAt W μ2 F2 (upd H2 p (.tup [v, w])) H z u := fun {z u} h => by
    cases z with
    | un => exact h
    | d x => exact h
    | ol xs =>
      obtain ⟨l, vs, e, e0, e1, z⟩ := h
      exact ⟨l, vs, e, e0, by rw [upd_ne (ne_of_none e1 hp)]; exact e1, z⟩
    | od ks xs =>
      obtain ⟨l, vs, e, e0, e1, z⟩ := h
      exact ⟨l, vs, e, e0, by rw [upd_ne (ne_of_none e1 hp)]; exact e1, z⟩
  have fu := Fu.own (B := fun b => B b ∨ Owns ρ σ b) (μ := μ2) (F := F2) (o := .tup [v, w]) a2.at_.gd hp
  have a3 := a2.fu fu (fun _ z => z) (a2.rg.own hp)
  exact ⟨c, d, B, μ2, F2, g2, a.setX2 a3 hij (keep p1) (keep p2) ne, by rw [List.length_set, List.length_set]; exact q2.later fu fun _ z => .inl z⟩
end
def un2 {α : Type} (k : D → D → M α) : D → M α
  | .tup [a, b] => k a b
  | _ => stuck
def un3 {α : Type} (k : D → D → D → M α) : D → M α
  | .tup [a, b, c] => k a b c
  | _ => stuck
def un4 {α : Type} (k : D → D → D → D → M α) : D → M α
  | .tup [a, b, c, d] => k a b c d
  | _ => stuck
def ul4 {α : Type} (k : D → D → D → D → M α) : D → M α
  | .lst [a, b, c, d] => k a b c d
  | _ => stuck
theorem un2_of {α : Type} {k : D → D → M α} {d : D} {n : Nat} {B : Addr → Prop} {μ : List Addr} {F H : Hp} {g : GS} {P : α → GS → List Addr → Hp → Hp → Prop} (q : Run W Wx n B μ F H (un2 k d g) P) : ∃ a b, d = .tup [a, b] ∧ Run W Wx n B μ F H (k a b g) P := by
  unfold un2 at q
  split at q
  · exact ⟨_, _, rfl, q⟩
  · exact q.elim
theorem un3_of {α : Type} {k : D → D → D → M α} {d : D} {n : Nat} {B : Addr → Prop} {μ : List Addr} {F H : Hp} {g : GS} {P : α → GS → List Addr → Hp → Hp → Prop} (q : Run W Wx n B μ F H (un3 k d g) P) : ∃ a b c, d = .tup [a, b, c] ∧ Run W Wx n B μ F H (k a b c g) P := by
  unfold un3 at q
  split at q
  · exact ⟨_, _, _, rfl, q⟩
  · exact q.elim
theorem un4_of {α : Type} {k : D → D → D → D → M α} {d : D} {n : Nat} {B : Addr → Prop} {μ : List Addr} {F H : Hp} {g : GS} {P : α → GS → List Addr → Hp → Hp → Prop} (q : Run W Wx n B μ F H (un4 k d g) P) : ∃ a b c e, d = .tup [a, b, c, e] ∧ Run W Wx n B μ F H (k a b c e g) P := by
  unfold un4 at q
  split at q
  · exact ⟨_, _, _, _, rfl, q⟩
  · exact q.elim
theorem ul4_of {α : Type} {k : D → D → D → D → M α} {d : D} {n : Nat} {B : Addr → Prop} {μ : List Addr} {F H : Hp} {g : GS} {P : α → GS → List Addr → Hp → Hp → Prop} (q : Run W Wx n B μ F H (ul4 k d g) P) : ∃ a b c e, d = .lst [a, b, c, e] ∧ Run W Wx n B μ F H (k a b c e g) P := by
  unfold ul4 at q
  split at q
  · exact ⟨_, _, _, _, rfl, q⟩
  · exact q.elim
theorem Rep.tup2 {μ : List Addr} {F : Hp} {a b : D} {v : V} (p : Rep W μ F (.tup [a, b]) v) : ∃ l x y, v = .ref l ∧ SqT W.K F l [x, y] ∧ Rep W μ F a x ∧ Rep W μ F b y := by
  cases p with
  | tup h r =>
    obtain ⟨x, y, e, r1, r2⟩ := two_of r
    rw [e] at h
    exact ⟨_, x, y, rfl, h.sq, r1, r2⟩
theorem three_of {μ : List Addr} {F : Hp} {d e f : D} {vs : List V} (rs : Reps W μ F [d, e, f] vs) : ∃ v w u, vs = [v, w, u] ∧ Rep W μ F d v ∧ Rep W μ F e w ∧ Rep W μ F f u := by
  cases rs with
  | cons r t =>
    obtain ⟨w, u, e1, r2, r3⟩ := two_of t
    exact ⟨_, w, u, by rw [e1], r, r2, r3⟩
theorem four_of {μ : List Addr} {F : Hp} {d e f h : D} {vs : List V} (rs : Reps W μ F [d, e, f, h] vs) : ∃ v w u t, vs = [v, w, u, t] ∧ Rep W μ F d v ∧ Rep W μ F e w ∧ Rep W μ F f u ∧ Rep W μ F h t := by
  cases rs with
  | cons r t =>
    obtain ⟨w, u, z, e1, r2, r3, r4⟩ := three_of t
    exact ⟨_, w, u, z, by rw [e1], r, r2, r3, r4⟩
def Bears (W : Wd) (μ : List Addr) (F : Hp) (P0 : Ro → L2.St → Prop) : Prop := ∀ ρ σ (i : Nat) d v, P0 ρ σ → Rep W μ F d v → P0 (ρ.set i (.d d)) (σ.set i (some v))
structure TgD {γ : Type} (X : Cx) (W : Wd) (Wx : WX) (tg : Expr) (t : TG) (f : {α : Type} → (γ → M α) → D → M α) (up : γ → Ro → Ro) (ps : List Nat) : Prop where
  pg : PG X tg t
  rd : ∀ {α : Type} (k : γ → M α) (d : D) (n : Nat) (B : Addr → Prop) (μ : List Addr) (F H : Hp) (g : GS) (P0 : Ro → L2.St → Prop) (ρ : Ro) (σ : L2.St) (v : V) (P : α → GS → List Addr → Hp → Hp → Prop) (Q : L2.St → Hp → Prop), Same F H → Bears W μ F P0 → P0 ρ σ → Rep W μ F d v → Run W Wx n B μ F H (f k d g) P →
    (∀ c σ', σ'.length = σ.length → (∀ vs : List Nat, (∀ i ∈ ps, i ∈ vs) → wipe σ' vs = wipe σ vs) → P0 (up c ρ) σ' → Run W Wx n B μ F H (k c g) P → Q σ' H) → t v σ H Q
theorem wipe_at {σ : L2.St} : ∀ {vs : List Nat} {i : Nat}, i ∈ vs → i < σ.length → (wipe σ vs)[i]? = some none
  | [], i, h, _ => by cases h
  | v :: vs, i, h, hl => by
    unfold wipe
    by_cases e : v = i
    · subst e
      rw [List.getElem?_set_self (by rw [wipe_length]; exact hl)]
    · rw [List.getElem?_set_ne e]
      exact wipe_at ((List.mem_cons.mp h).resolve_left fun q => e q.symm) hl
theorem wipe_set {σ : L2.St} {i : Nat} {x : Option V} {vs : List Nat} (h : i ∈ vs) : wipe (σ.set i x) vs = wipe σ vs := by
  refine List.ext_getElem? fun j => ?_
  by_cases hj : j ∈ vs
  · by_cases hl : j < σ.length
    · rw [wipe_at hj (by rw [List.length_set]; exact hl), wipe_at hj hl]
    · rw [List.getElem?_eq_none (by rw [wipe_length, List.length_set]; omega), List.getElem?_eq_none (by rw [wipe_length]; omega)]
  · rw [wipe_out hj, wipe_out hj, List.getElem?_set_ne (fun e => hj (by rw [← e]; exact h))]
def on1 {α : Type} (k : D → M α) (d : D) : M α := k d
def on2 {α : Type} (k : D × D → M α) (d : D) : M α := un2 (fun a b => k (a, b)) d
def on3 {α : Type} (k : D × D × D → M α) (d : D) : M α := un3 (fun a b c => k (a, b, c)) d
def on4 {α : Type} (k : D × D × D × D → M α) (d : D) : M α := un4 (fun a b c e => k (a, b, c, e)) d
def on4l {α : Type} (k : D × D × D × D → M α) (d : D) : M α := ul4 (fun a b c e => k (a, b, c, e)) d
theorem tg1 (i : Nat) {x : Str} {pos : Pos} (hN : X.N.Nodup) (hi : X.N[i]? = some x := by rfl) (hx : Loc X.env.scope x := by first | exact .inl rfl | exact .inr rfl) (hf : X.fn x = true ∨ X.env.scope.names.lookup x = some .local := by first | exact .inl rfl | exact .inr rfl) :
    TgD X W Wx (.Name x pos) (gName i) (γ := D) (fun k d => on1 k d) (fun d ρ => ρ.set i (.d d)) [i] :=
  ⟨pg_name hN hi hx (hf := hf), fun k d n B μ F H g P0 ρ σ v P Q sub cl a p q kk => kk d _ (by rw [List.length_set]) (fun vs h => wipe_set (h i (by simp))) (cl _ _ _ _ _ a p) q⟩
theorem tg2 (i j : Nat) {x y : Str} {px py pos : Pos} {kt : Nat} (hK : W.K = X.K) (hc : X.calm = true) (hN : X.N.Nodup) (hi : X.N[i]? = some x := by rfl) (hj : X.N[j]? = some y := by rfl) (hx : Loc X.env.scope x := by first | exact .inl rfl | exact .inr rfl) (hy : Loc X.env.scope y := by first | exact .inl rfl | exact .inr rfl)
    (hn1 : (assignEach [.Name x px, .Name y py] X.env).length = 2 := by rfl) (hst : (assignEach [.Name x px, .Name y py] X.env).findIdx? (·.1) = none := by rfl)
    (hf : X.fn x = true ∨ X.env.scope.names.lookup x = some .local := by first | exact .inl rfl | exact .inr rfl) (hf2 : X.fn y = true ∨ X.env.scope.names.lookup y = some .local := by first | exact .inl rfl | exact .inr rfl) :
    TgD X W Wx (.Tuple [.Name x px, .Name y py] kt pos) (gTup X.K 2 (gCons (gName i) (gCons (gName j) gNil))) (γ := D × D) (fun k d => on2 k d) (fun c ρ => (ρ.set i (.d c.1)).set j (.d c.2)) [i, j] :=
  ⟨pg_tup hc (pgs_cons (pg_name hN hi hx (hf := hf)) (pgs_cons (pg_name hN hj hy (hf := hf2)) pgs_nil)) hn1 hst, fun k d n B μ F H g P0 ρ σ v P Q sub cl a p q kk => by
    obtain ⟨c, e, rfl, q⟩ := un2_of q
    obtain ⟨q0, x, y, rfl, h, r1, r2⟩ := p.tup2
    exact ⟨q0, [x, y], rfl, Same.tup sub (hK ▸ h), rfl, x, [y], rfl, y, [], rfl, rfl, kk (c, e) _ (by rw [List.length_set, List.length_set]) (fun vs h => by rw [wipe_set (h j (by simp)), wipe_set (h i (by simp))]) (cl _ _ _ _ _ (cl _ _ _ _ _ a r1) r2) q⟩⟩
theorem tg3 (i j l : Nat) {x y z : Str} {px py pz pos : Pos} {kt : Nat} (hK : W.K = X.K) (hc : X.calm = true) (hN : X.N.Nodup) (hi : X.N[i]? = some x := by rfl) (hj : X.N[j]? = some y := by rfl) (hl : X.N[l]? = some z := by rfl) (hx : Loc X.env.scope x := by first | exact .inl rfl | exact .inr rfl) (hy : Loc X.env.scope y := by first | exact .inl rfl | exact .inr rfl) (hz : Loc X.env.scope z := by first | exact .inl rfl | exact .inr rfl)
    (hn1 : (assignEach [.Name x px, .Name y py, .Name z pz] X.env).length = 3 := by rfl) (hst : (assignEach [.Name x px, .Name y py, .Name z pz] X.env).findIdx? (·.1) = none := by rfl)
    (hf : X.fn x = true ∨ X.env.scope.names.lookup x = some .local := by first | exact .inl rfl | exact .inr rfl) (hf2 : X.fn y = true ∨ X.env.scope.names.lookup y = some .local := by first | exact .inl rfl | exact .inr rfl) (hf3 : X.fn z = true ∨ X.env.scope.names.lookup z = some .local := by first | exact .inl rfl | exact .inr rfl) :
    TgD X W Wx (.Tuple [.Name x px, .Name y py, .Name z pz] kt pos) (gTup X.K 3 (gCons (gName i) (gCons (gName j) (gCons (gName l) gNil)))) (γ := D × D × D) (fun k d => on3 k d) (fun c ρ => ((ρ.set i (.d c.1)).set j (.d c.2.1)).set l (.d c.2.2)) [i, j, l] :=
  ⟨pg_tup hc (pgs_cons (pg_name hN hi hx (hf := hf)) (pgs_cons (pg_name hN hj hy (hf := hf2)) (pgs_cons (pg_name hN hl hz (hf := hf3)) pgs_nil))) hn1 hst, fun k d n B μ F H g P0 ρ σ v P Q sub cl a p q kk => by
    obtain ⟨c, e, f, rfl, q⟩ := un3_of q
    cases p with
    | tup h r =>
      obtain ⟨x, y, z, e1, r1, r2, r3⟩ := three_of r
      rw [e1] at h
      exact ⟨_, [x, y, z], rfl, Same.tup sub (hK ▸ h.sq), rfl, x, _, rfl, y, _, rfl, z, [], rfl, rfl, kk (c, e, f) _ (by rw [List.length_set, List.length_set, List.length_set]) (fun vs h => by rw [wipe_set (h l (by simp)), wipe_set (h j (by simp)), wipe_set (h i (by simp))]) (cl _ _ _ _ _ (cl _ _ _ _ _ (cl _ _ _ _ _ a r1) r2) r3) q⟩⟩
theorem tg4 (i j l o : Nat) {x y z u : Str} {px py pz pu pos : Pos} {kt : Nat} (hK : W.K = X.K) (hc : X.calm = true) (hN : X.N.Nodup) (hi : X.N[i]? = some x := by rfl) (hj : X.N[j]? = some y := by rfl) (hl : X.N[l]? = some z := by rfl) (ho : X.N[o]? = some u := by rfl)
    (hx : Loc X.env.scope x := by first | exact .inl rfl | exact .inr rfl) (hy : Loc X.env.scope y := by first | exact .inl rfl | exact .inr rfl) (hz : Loc X.env.scope z := by first | exact .inl rfl | exact .inr rfl) (hu : Loc X.env.scope u := by first | exact .inl rfl | exact .inr rfl)
    (hn1 : (assignEach [.Name x px, .Name y py, .Name z pz, .Name u pu] X.env).length = 4 := by rfl) (hst : (assignEach [.Name x px, .Name y py, .Name z pz, .Name u pu] X.env).findIdx? (·.1) = none := by rfl)
    (hf : X.fn x = true ∨ X.env.scope.names.lookup x = some .local := by first | exact .inl rfl | exact .inr rfl) (hf2 : X.fn y = true ∨ X.env.scope.names.lookup y = some .local := by first | exact .inl rfl | exact .inr rfl) (hf3 : X.fn z = true ∨ X.env.scope.names.lookup z = some .local := by first | exact .inl rfl | exact .inr rfl) (hf4 : X.fn u = true ∨ X.env.scope.names.lookup u = some .local := by first | exact .inl rfl | exact .inr rfl) :
    TgD X W Wx (.Tuple [.Name x px, .Name y py, .Name z pz, .Name u pu] kt pos) (gTup X.K 4 (gCons (gName i) (gCons (gName j) (gCons (gName l) (gCons (gName o) gNil))))) (γ := D × D × D × D) (fun k d => on4 k d) (fun c ρ => (((ρ.set i (.d c.1)).set j (.d c.2.1)).set l (.d c.2.2.1)).set o (.d c.2.2.2)) [i, j, l, o] :=
  ⟨pg_tup hc (pgs_cons (pg_name hN hi hx (hf := hf)) (pgs_cons (pg_name hN hj hy (hf := hf2)) (pgs_cons (pg_name hN hl hz (hf := hf3)) (pgs_cons (pg_name hN ho hu (hf := hf4)) pgs_nil)))) hn1 hst, fun k d n B μ F H g P0 ρ σ v P Q sub cl a p q kk => by
    obtain ⟨c, e, f, h0, rfl, q⟩ := un4_of q
    cases p with
    | tup h r =>
      obtain ⟨x, y, z, w, e1, r1, r2, r3, r4⟩ := four_of r
      rw [e1] at h
      exact ⟨_, [x, y, z, w], rfl, Same.tup sub (hK ▸ h.sq), rfl, x, _, rfl, y, _, rfl, z, _, rfl, w, [], rfl, rfl, kk (c, e, f, h0) _ (by rw [List.length_set, List.length_set, List.length_set, List.length_set]) (fun vs h => by rw [wipe_set (h o (by simp)), wipe_set (h l (by simp)), wipe_set (h j (by simp)), wipe_set (h i (by simp))]) (cl _ _ _ _ _ (cl _ _ _ _ _ (cl _ _ _ _ _ (cl _ _ _ _ _ a r1) r2) r3) r4) q⟩⟩
theorem tg4l (i j l o : Nat) {x y z u : Str} {px py pz pu pos : Pos} {kt : Nat} (hc : X.calm = true) (hN : X.N.Nodup) (hi : X.N[i]? = some x := by rfl) (hj : X.N[j]? = some y := by rfl) (hl : X.N[l]? = some z := by rfl) (ho : X.N[o]? = some u := by rfl)
    (hx : Loc X.env.scope x := by first | exact .inl rfl | exact .inr rfl) (hy : Loc X.env.scope y := by first | exact .inl rfl | exact .inr rfl) (hz : Loc X.env.scope z := by first | exact .inl rfl | exact .inr rfl) (hu : Loc X.env.scope u := by first | exact .inl rfl | exact .inr rfl)
    (hn1 : (assignEach [.Name x px, .Name y py, .Name z pz, .Name u pu] X.env).length = 4 := by rfl) (hst : (assignEach [.Name x px, .Name y py, .Name z pz, .Name u pu] X.env).findIdx? (·.1) = none := by rfl)
    (hf : X.fn x = true ∨ X.env.scope.names.lookup x = some .local := by first | exact .inl rfl | exact .inr rfl) (hf2 : X.fn y = true ∨ X.env.scope.names.lookup y = some .local := by first | exact .inl rfl | exact .inr rfl) (hf3 : X.fn z = true ∨ X.env.scope.names.lookup z = some .local := by first | exact .inl rfl | exact .inr rfl) (hf4 : X.fn u = true ∨ X.env.scope.names.lookup u = some .local := by first | exact .inl rfl | exact .inr rfl) :
    TgD X W Wx (.Tuple [.Name x px, .Name y py, .Name z pz, .Name u pu] kt pos) (gUnl X.K 4 (gCons (gName i) (gCons (gName j) (gCons (gName l) (gCons (gName o) gNil))))) (γ := D × D × D × D) (fun k d => on4l k d) (fun c ρ => (((ρ.set i (.d c.1)).set j (.d c.2.1)).set l (.d c.2.2.1)).set o (.d c.2.2.2)) [i, j, l, o] :=
  ⟨pg_unl hc (pgs_cons (pg_name hN hi hx (hf := hf)) (pgs_cons (pg_name hN hj hy (hf := hf2)) (pgs_cons (pg_name hN hl hz (hf := hf3)) (pgs_cons (pg_name hN ho hu (hf := hf4)) pgs_nil)))) hn1 hst, fun k d n B μ F H g P0 ρ σ v P Q sub cl a p q kk => by
    obtain ⟨c, e, f, h0, rfl, q⟩ := ul4_of q
    cases p with
    | lst h r =>
      obtain ⟨x, y, z, w, e1, r1, r2, r3, r4⟩ := four_of r
      rw [e1] at h
      exact ⟨_, [x, y, z, w], rfl, SqL.of (sub _ _ h), rfl, x, _, rfl, y, _, rfl, z, _, rfl, w, [], rfl, rfl, kk (c, e, f, h0) _ (by rw [List.length_set, List.length_set, List.length_set, List.length_set]) (fun vs h => by rw [wipe_set (h o (by simp)), wipe_set (h l (by simp)), wipe_set (h j (by simp)), wipe_set (h i (by simp))]) (cl _ _ _ _ _ (cl _ _ _ _ _ (cl _ _ _ _ _ (cl _ _ _ _ _ a r1) r2) r3) r4) q⟩⟩
theorem AtS.bears {B : Addr → Prop} {μ : List Addr} {F H : Hp} {g : GS} : Bears W μ F fun ρ σ => AtS W B μ F H g ρ σ := fun _ _ _ _ _ a r => a.setD r
theorem ds_asg {γ : Type} {tg e : Expr} {t : TG} {ps : List Nat} {m : M D} {f : {α : Type} → (γ → M α) → D → M α} {up : γ → Ro → Ro} {k : γ → M (Fl S)} {pos : Pos} (ht : TgD X W Wx tg t f up ps) (h : PDe X W Wx e ρ m) (hr : ∀ c, PDs X W Wx rest (up c ρ) mk (k c))
    (hs : swapsWithSole [tg] e pos.line X.env = pure false := by rfl) (hw : swappedStores [tg] e X.env = pure none := by rfl) (ha : (assignEach [tg] X.env).map (·.2) = [assign tg X.env] := by rfl) : PDs X W Wx (.Assign [tg] e pos :: rest) ρ mk (m >>= fun d => f k d) := by
  refine ⟨PSsw (pss_cons (ps_asg h.p ht.pg hs hw (h1 := ha)) (u := fun D σ H => ∃ c, tS W Wx (up c ρ) mk (k c) D σ H) ⟨fun pins s σ H D I ⟨c, q⟩ => (hr c).p.run pins s σ H D I q⟩) ?_⟩
  intro D σ H ⟨B, μ, F, g, a, q⟩
  refine ⟨_, μ, F, g, a.at_, (Run.bind q fun _ z => .inl z).mono (fun _ z => z) fun d g1 μ1 F1 H1 f1 r1 q1 v p => ?_⟩
  have a1 := a.fu f1 (fun _ z => z) r1
  exact ht.rd k d _ B μ1 F1 H1 g1 _ ρ σ v _ _ a1.rg.sub AtS.bears a1 p q1 fun c σ' e _ a2 q2 => ⟨c, B, μ1, F1, g1, a2, by rw [e]; exact q2⟩
def mApp (m : M D) (xs : List D) (k : D → M (Fl S)) : M (Fl S) := m >>= fun d => if xs.length < sizeLine then k d else stuck
theorem ds_append (i : Nat) {x : Str} {xs : List D} {e : Expr} {m : M D} {k : D → M (Fl S)} {p apos pos spos : Pos} (ei : ρ[i]? = some (.ol xs)) (h : PDe X W Wx e ρ m) (hr : ∀ d, PDs X W Wx rest (ρ.set i (.ol (xs ++ [d]))) mk (k d))
    (hv : PE X (.Name x p) (tVar i)) (hs : swapsWith (.Call (.Attribute (.Name x p) "append" apos) [e] [] pos) none spos.line X.env = pure false := by rfl)
    (hb : ∀ {t : TE} {r : V → List V → Hp → VK → Prop}, MtR X "list.append" r → PE X e t → PE X (.Call (.Attribute (.Name x p) "append" apos) [e] [] pos) (tBM X.K "list" r (tVar i) (tCons t tNil))) :
    PDs X W Wx (.Expr (.Call (.Attribute (.Name x p) "append" apos) [e] [] pos) spos :: rest) ρ mk (mApp m xs k) := by
  refine ⟨PSsw (pss_cons (ps_expr (hb mt_append h.p) hs) (u := fun D σ H => ∃ d, tS W Wx (ρ.set i (.ol (xs ++ [d]))) mk (k d) D σ H) ⟨fun pins s σ H D I ⟨c, q⟩ => (hr c).p.run pins s σ H D I q⟩) ?_⟩
  intro D σ H ⟨B, μ, F, g, a, q⟩
  have il : i < σ.length := by
    rw [← a.rel.len]
    exact (List.getElem?_eq_some_iff.mp ei).1
  obtain ⟨l, vs, e0, e1, e2, nm, r⟩ := a.rel.at_ i _ _ ei (List.getElem?_eq_getElem il)
  have es : σ[i]? = some (some (.ref l)) := by rw [List.getElem?_eq_getElem il, e0]
  refine ⟨.ref l, es, .inl ⟨rfl, _, SqL.of e1⟩, _, μ, F, g, a.at_, (Run.bind q fun _ z => .inl z).mono (fun _ z => z) fun d g1 μ1 F1 H1 f1 r1 q1 v p => ?_⟩
  have a1 := a.fu f1 (fun _ z => z) r1
  obtain ⟨l', vs', z0, z1, z2, nm', r'⟩ := a1.rel.at_ i _ _ ei es
  cases z0
  by_cases c : xs.length < sizeLine
  · rw [if_pos c] at q1
    refine ⟨l, vs', v, rfl, rfl, z1, by rw [← r'.length]; exact c, ?_⟩
    obtain ⟨f2, a2⟩ := a1.write (y := .ol (xs ++ [d])) (o := .lst (vs' ++ [v])) ei rfl rfl es ⟨l, vs' ++ [v], rfl, upd_same, z2, nm', r'.append (.one p)⟩
    exact ⟨d, B, μ1, F1, g1, a2, q1.later f2 fun _ z => z⟩
  · rw [if_neg c] at q1
    exact q1.elim
end
end PD
namespace PD
open PySem PySem.Spec L2
open PyProof.Rows hiding St
inductive ItD (W : Wd) (K : PySem.W.Frag) (B : Addr → Prop) (μ : List Addr) (F H : Hp) : It → List D → Prop
  | lst {a : Addr} {vs : List V} {ds : List D} (h : SqL W.K F a vs ∨ (H a = some (.lst vs) ∧ (∀ n : Nat, μ[n]? ≠ some a) ∧ B a)) (r : Reps W μ F ds vs) : ItD W K B μ F H (Itl K a) ds
  | tup {a : Addr} {vs : List V} {ds : List D} (h : SqT W.K F a vs) (r : Reps W μ F ds vs) : ItD W K B μ F H (Itt K a) ds
  | rng (lo : Int) (n : Nat) : ItD W K B μ F H (Itr lo n) ((List.range n).map fun (i : Nat) => D.int (lo + (i : Nat)))
  | str (x : Str) : ItD W K B μ F H (Its x) (x.cps.toList.map fun c => D.str ⟨#[c]⟩)
theorem ItD.fu {W : Wd} {K : PySem.W.Frag} {B B' : Addr → Prop} {μ μ' : List Addr} {F F' H H' : Hp} {J : It} {ds : List D} (f : Fu B' μ F H μ' F' H') (hB : ∀ x, B x → B' x) (h : ItD W K B μ F H J ds) : ItD W K B μ' F' H' J ds := by
  cases h with
  | lst h r =>
    refine .lst ?_ (r.mono f.grow f.fro)
    rcases h with h | ⟨h1, h2, h3⟩
    · exact .inl (f.fro.seq h)
    · exact .inr ⟨f.keep _ _ (hB _ h3) h1 h2, (fun n q => (f.new n _ (hB _ h3) q).elim (h2 n) (fun z => (by rw [h1] at z; cases z))), h3⟩
  | tup h r => exact .tup (Same.tup f.fro h) (r.mono f.grow f.fro)
  | rng lo n => exact .rng lo n
  | str x => exact .str x
theorem for_any {W : Wd} {K : PySem.W.Frag} {J : It} {ds : List D} {g : TG} {tb : TS} {D0 : Ends} {σ : L2.St} {H : Hp} (hK : W.K = K) (Pv : Nat → (Addr → Prop) → List Addr → Hp → L2.St → Hp → Prop) (h0 : ∃ B μ F, Same F H ∧ ItD W K B μ F H J ds ∧ Pv 0 B μ F σ H)
    (hs : ∀ i d x B μ F σ H, ds[i]? = some d → Same F H → Rep W μ F d x → ItD W K B μ F H J ds → Pv i B μ F σ H → g x σ H fun σ2 H2 => tb { D0 with nx := fun σ H => ∃ B μ F, Same F H ∧ ItD W K B μ F H J ds ∧ Pv (i + 1) B μ F σ H, ct := fun σ H => ∃ B μ F, Same F H ∧ ItD W K B μ F H J ds ∧ Pv (i + 1) B μ F σ H, bk := D0.nx } σ2 H2)
    (hd : ∀ B μ F σ H, Pv ds.length B μ F σ H → D0.nx σ H) :
    ∃ Wn : Nat → Nat → L2.St → Hp → Prop, (∃ m, Wn 0 m σ H) ∧ ∀ i m σ H, Wn i m σ H →
      (J.stop i H ∧ D0.nx σ H) ∨ (J.go i H ∧ ∃ N : L2.St → Hp → Prop, (∀ σ' H', N σ' H' → ∃ m', m' < m ∧ Wn (i + 1) m' σ' H') ∧ ∀ x H', J.yld i H x H' → g x σ H' fun σ2 H2 => tb { D0 with nx := N, ct := N, bk := D0.nx } σ2 H2) := by
  refine ⟨fun i m σ H => m = ds.length - i ∧ i ≤ ds.length ∧ ∃ B μ F, Same F H ∧ ItD W K B μ F H J ds ∧ Pv i B μ F σ H, ⟨ds.length, by simp, Nat.zero_le _, h0⟩, ?_⟩
  rintro i m σ H ⟨rfl, hi, B, μ, F, sub, it, p⟩
  by_cases hlt : i < ds.length
  · have nx : ∀ σ' H', (∃ B μ F, Same F H' ∧ ItD W K B μ F H' J ds ∧ Pv (i + 1) B μ F σ' H') → ∃ m', m' < ds.length - i ∧ (m' = ds.length - (i + 1) ∧ i + 1 ≤ ds.length ∧ ∃ B μ F, Same F H' ∧ ItD W K B μ F H' J ds ∧ Pv (i + 1) B μ F σ' H') := fun σ' H' z => ⟨ds.length - (i + 1), by omega, rfl, hlt, z⟩
    have ed : ds[i]? = some ds[i] := List.getElem?_eq_getElem hlt
    refine .inr ⟨?_, _, nx, fun x H' y => ?_⟩
    · cases id it with
      | @lst a vs _ h r =>
        obtain ⟨v, ev, _⟩ := r.get ed
        refine ⟨vs, v, ?_, ev⟩
        rcases h with h | ⟨h1, _⟩
        · exact sub.seq (hK ▸ h)
        · exact SqL.of h1
      | @tup a vs _ h r =>
        obtain ⟨v, ev, _⟩ := r.get ed
        exact ⟨vs, v, Same.tup sub (hK ▸ h), ev⟩
      | rng lo n =>
        have z := hlt
        rw [List.length_map, List.length_range] at z
        exact z
      | str x =>
        have z := hlt
        rw [List.length_map, Array.length_toList] at z
        exact z
    · have key : H' = H ∧ Rep W μ F ds[i] x := by
        cases id it with
        | @lst a vs _ h r =>
          obtain ⟨e, y⟩ := y
          obtain ⟨v, ev, rv⟩ := r.get ed
          have q : SqL K H a vs := by
            rcases h with h | ⟨h1, _⟩
            · exact sub.seq (hK ▸ h)
            · exact SqL.of h1
          have := y vs q
          rw [ev] at this
          cases this
          exact ⟨e, rv⟩
        | @tup a vs _ h r =>
          obtain ⟨e, y⟩ := y
          obtain ⟨v, ev, rv⟩ := r.get ed
          have := y vs (Same.tup sub (hK ▸ h))
          rw [ev] at this
          cases this
          exact ⟨e, rv⟩
        | rng lo n =>
          obtain ⟨e, y⟩ := y
          subst y
          refine ⟨e, ?_⟩
          rw [List.getElem_map, List.getElem_range]
          exact .int _
        | str z =>
          obtain ⟨e, c, ec, y⟩ := y
          subst y
          refine ⟨e, ?_⟩
          have h2 : z.cps.toList[i]? = some c := by rw [Array.getElem?_toList]; exact ec
          have h3 : (z.cps.toList.map fun c => D.str ⟨#[c]⟩)[i]? = some (D.str ⟨#[c]⟩) := by rw [List.getElem?_map, h2]; rfl
          rw [ed] at h3
          rw [Option.some.inj h3]
          exact .str _
      obtain ⟨e, rx⟩ := key
      subst e
      exact hs i _ x B μ F σ _ ed sub rx it p
  · have e : i = ds.length := by omega
    subst e
    refine .inl ⟨?_, hd B μ F σ H p⟩
    cases id it with
    | @lst a vs _ h r =>
      refine ⟨vs, ?_, by rw [r.length]; exact Nat.le_refl _⟩
      rcases h with h | ⟨h1, _⟩
      · exact sub.seq (hK ▸ h)
      · exact SqL.of h1
    | @tup a vs _ h r => exact ⟨vs, Same.tup sub (hK ▸ h), by rw [r.length]; exact Nat.le_refl _⟩
    | rng lo n =>
      show n ≤ _
      rw [List.length_map, List.length_range]
      exact Nat.le_refl _
    | str x =>
      show x.cps.size ≤ _
      rw [List.length_map, Array.length_toList]
      exact Nat.le_refl _
section
variable {X : Cx} {W : Wd} {Wx : WX} {ρ : Ro} {S T : Type} {mk : S → Ro} {rest : List Stmt}
def tI (W : Wd) (Wx : WX) (K : PySem.W.Frag) (ρ : Ro) (m : M (List D)) : TI := fun σ H R => ∃ (B : Addr → Prop) (μ : List Addr) (F : Hp) (g : GS), At W B μ F H g ρ σ ∧ Run W Wx σ.length B μ F H (m g) fun ds _ μ' F' H' => ∀ J, ItD W K (fun _ => False) μ' F' H' J ds → R J H'
structure PDi (X : Cx) (W : Wd) (Wx : WX) (tg e : Expr) (ρ : Ro) (m : M (List D)) : Prop where
  p : PI X tg e (tI W Wx X.K ρ m)
theorem PIw {tg e : Expr} {t u : TI} (h : PI X tg e t) (k : ∀ σ H Q, u σ H Q → t σ H Q) : PI X tg e u := ⟨fun pins s σ H R I q => h.run pins s σ H R I (k σ H R q)⟩
theorem PI.or3 {tg e : Expr} {t u w : TI} (h1 : PI X tg e t) (h2 : PI X tg e u) (h3 : PI X tg e w) : PI X tg e fun σ H R => t σ H R ∨ u σ H R ∨ w σ H R := ⟨fun pins s σ H R I q => by
  rcases q with q | q | q
  · exact h1.run pins s σ H R I q
  · exact h2.run pins s σ H R I q
  · exact h3.run pins s σ H R I q⟩
def items : D → M (List D)
  | .tup xs => pure xs
  | .lst xs => pure xs
  | .scr xs => pure xs
  | .str x => pure (x.cps.toList.map fun c => D.str ⟨#[c]⟩)
  | _ => stuck
theorem di_of (hK : W.K = X.K) {tg e : Expr} {m : M D} (h : PDe X W Wx e ρ m) : PDi X W Wx tg e ρ (b1 items m) :=
  ⟨PIw (PI.or3 (pi_list h.p) (pi_tup h.p) (pi_str h.p)) fun σ H R ⟨B, μ, F, g, a, q⟩ => by
    have q' := q
    unfold b1 at q'
    rw [M.bind_run] at q'
    cases e : m g with
    | st => rw [e] at q'; exact q'.elim
    | ex ee g1 =>
      rw [e] at q'
      exact .inl ⟨B, μ, F, g, a, by rw [e]; exact q'⟩
    | ok d g1 =>
      have main : ∀ (P : V → Hp → Prop), (∀ μ1 F1 H1 v, Fu B μ F H μ1 F1 H1 → RG W g1 μ1 F1 H1 → Rep W μ1 F1 d v → At W B μ1 F1 H1 g1 ρ σ → Run W Wx σ.length B μ1 F1 H1 (items d g1) (fun ds _ μ' F' H' => ∀ J, ItD W X.K (fun _ => False) μ' F' H' J ds → R J H') → P v H1) → tE W Wx ρ m σ H P := fun P k => by
        refine ⟨B, μ, F, g, a, ?_⟩
        have q2 := Run.bind (B' := B) q fun _ z => z
        rw [e] at q2 ⊢
        exact fun μ1 F1 H1 f1 r1 v p => k μ1 F1 H1 v f1 r1 p (a.fu f1 (fun _ z => z) r1) (q2 μ1 F1 H1 f1 r1)
      cases d with
      | tup xs =>
        refine .inr (.inl (main _ fun μ1 F1 H1 v f1 r1 p a1 q3 => ?_))
        cases p with
        | tup h r => exact ⟨_, rfl, ⟨_, Same.tup r1.sub (hK ▸ h.sq)⟩, Run.pure q3 a1.gd a1.rg _ (.tup h.sq r)⟩
      | lst xs =>
        refine .inl (main _ fun μ1 F1 H1 v f1 r1 p a1 q3 => ?_)
        cases p with
        | lst h r => exact ⟨_, rfl, ⟨_, SqL.of (r1.sub _ _ h)⟩, Run.pure q3 a1.gd a1.rg _ (.lst (.inl (SqL.of h)) r)⟩
      | scr xs =>
        refine .inl (main _ fun μ1 F1 H1 v f1 r1 p a1 q3 => ?_)
        cases p with
        | scr h r => exact ⟨_, rfl, ⟨_, r1.sub.seq (hK ▸ h)⟩, Run.pure q3 a1.gd a1.rg _ (.lst (.inl h) r)⟩
      | str x =>
        refine .inr (.inr (main _ fun μ1 F1 H1 v f1 r1 p a1 q3 => ?_))
        cases p with
        | str x => exact ⟨x, rfl, Run.pure q3 a1.gd a1.rg _ (.str x)⟩
      | _ =>
        rw [e] at q'
        exact q'.elim⟩
def tJ (W : Wd) (Wx : WX) (K : PySem.W.Frag) (ρ : Ro) (m : M (List D)) : TI := fun σ H R => ∃ (B : Addr → Prop) (μ : List Addr) (F : Hp) (g : GS), At W B μ F H g ρ σ ∧ Run W Wx σ.length B μ F H (m g) fun ds _ μ' F' H' => ∀ J, ItD W K B μ' F' H' J ds → R J H'
structure PDj (X : Cx) (W : Wd) (Wx : WX) (tg e : Expr) (ρ : Ro) (m : M (List D)) : Prop where
  p : PI X tg e (tJ W Wx X.K ρ m)
theorem ItD.le {K : PySem.W.Frag} {B : Addr → Prop} {μ : List Addr} {F H : Hp} {J : It} {ds : List D} (h : ItD W K (fun _ => False) μ F H J ds) : ItD W K B μ F H J ds := by
  cases h with
  | lst h r => exact .lst (h.imp id fun z => z.2.2.elim) r
  | tup h r => exact .tup h r
  | rng lo n => exact .rng lo n
  | str x => exact .str x
theorem dj_of {tg e : Expr} {m : M (List D)} (h : PDi X W Wx tg e ρ m) : PDj X W Wx tg e ρ m :=
  ⟨PIw h.p fun σ H R ⟨B, μ, F, g, a, q⟩ => ⟨B, μ, F, g, a, q.mono (fun _ z => z) fun ds g1 μ1 F1 H1 f1 r1 q1 J it => q1 J it.le⟩⟩
def qItems (t : Bool × List D) : M (List D) := if t.1 = false then pure t.2 else stuck
theorem dj_q (hK : W.K = X.K) {tg e : Expr} {m : M (Bool × List D)} (h : PDq X W Wx e ρ m) : PDj X W Wx tg e ρ (b1 qItems m) :=
  ⟨PIw (pi_list h.p) fun σ H R ⟨B, μ, F, g, a, q⟩ => ⟨B, μ, F, g, a, (Run.bind q fun _ z => z).mono (fun _ z => z) fun t g1 μ1 F1 H1 f1 r1 q1 v p => by
    have a1 := a.fu f1 (fun _ z => z) r1
    have q2 : Run W Wx σ.length B μ1 F1 H1 ((if t.1 = false then pure t.2 else stuck : M (List D)) g1) (fun ds _ μ' F' H' => ∀ J, ItD W X.K B μ' F' H' J ds → R J H') := q1
    by_cases c : t.1 = false
    · rw [if_pos c] at q2
      obtain ⟨l, vs, e, rs, k⟩ := p
      rw [c] at k
      have k' : SqL W.K F1 l vs ∨ (H1 l = some (.lst vs) ∧ (∀ n : Nat, μ1[n]? ≠ some l) ∧ B l) := k
      have kk : SqL X.K H1 l vs := by
        rcases k' with k | k
        · exact r1.sub.seq (hK ▸ k)
        · exact SqL.of k.1
      exact ⟨l, e, ⟨_, kk⟩, Run.pure q2 a1.gd a1.rg _ (.lst k' rs)⟩
    · rw [if_neg c] at q2
      exact q2.elim⟩⟩
def rngD (lo hi : Int) : M (List D) := if -(2 ^ 62) ≤ lo ∧ lo < 2 ^ 62 ∧ -(2 ^ 62) ≤ hi ∧ hi < 2 ^ 62 then pure ((List.range (hi - lo).toNat).map fun (i : Nat) => D.int (lo + (i : Nat))) else stuck
def fRange1 : List D → M (List D)
  | [.int j] => rngD 0 j
  | _ => stuck
def fRange2 : List D → M (List D)
  | [.int i, .int j] => rngD i j
  | _ => stuck
theorem rngD_of {i j : Int} {n : Nat} {B : Addr → Prop} {μ : List Addr} {F H : Hp} {g : GS} {P : List D → GS → List Addr → Hp → Hp → Prop} (q : Run W Wx n B μ F H (rngD i j g) P) (gd : Guard B F H) (rg : RG W g μ F H) :
    (-(2 ^ 62) ≤ i ∧ i < 2 ^ 62 ∧ -(2 ^ 62) ≤ j ∧ j < 2 ^ 62) ∧ P ((List.range (j - i).toNat).map fun (k : Nat) => D.int (i + (k : Nat))) g μ F H := by
  unfold rngD at q
  by_cases c : -(2 ^ 62) ≤ i ∧ i < 2 ^ 62 ∧ -(2 ^ 62) ≤ j ∧ j < 2 ^ 62
  · rw [if_pos c] at q
    exact ⟨c, Run.pure q gd rg⟩
  · rw [if_neg c] at q
    exact q.elim
theorem di_range1 {tg a : Expr} {c : Ar} {p pos : Pos} (hm : X.mg "range" = none) (ha : PDa X W Wx [a] ρ c) (hg : Gl X "range" := by rfl) (hs : starEach [a] X.env = [(false, eval a X.env)] := by rfl) : PDi X W Wx tg (.Call (.Name "range" p) [a] [] pos) ρ (c (List D) fRange1) :=
  ⟨PIw (pi_range1 hg hm ha.p hs) fun σ H R ⟨B, μ, F, g, a, q⟩ => ⟨List D, fRange1, B, μ, F, g, _, a, q, fun ds vs μ1 F1 H1 g1 f1 a1 rs q1 => by
    by_cases h : ∃ j, ds = [.int j]
    · obtain ⟨j, rfl⟩ := h
      obtain ⟨v, rfl, r⟩ := one_of rs
      cases r
      obtain ⟨c, z⟩ := rngD_of (i := 0) (j := j) q1 a1.gd a1.rg
      rw [Int.sub_zero] at z
      exact ⟨j, rfl, c.2.2.1, c.2.2.2, z _ (.rng 0 j.toNat)⟩
    · have e : fRange1 ds = stuck := by
        unfold fRange1
        split
        · exact absurd ⟨_, rfl⟩ h
        · rfl
      rw [e] at q1
      exact q1.elim⟩⟩
theorem di_range2 {tg a b : Expr} {c : Ar} {p pos : Pos} (hm : X.mg "range" = none) (ha : PDa X W Wx [a, b] ρ c) (hg : Gl X "range" := by rfl) (hs : starEach [a, b] X.env = [(false, eval a X.env), (false, eval b X.env)] := by rfl) (hs2 : starEach [b] X.env = [(false, eval b X.env)] := by rfl) :
    PDi X W Wx tg (.Call (.Name "range" p) [a, b] [] pos) ρ (c (List D) fRange2) :=
  ⟨PIw (pi_range2 hg hm ha.p hs hs2) fun σ H R ⟨B, μ, F, g, a, q⟩ => ⟨List D, fRange2, B, μ, F, g, _, a, q, fun ds vs μ1 F1 H1 g1 f1 a1 rs q1 => by
    by_cases h : ∃ i j, ds = [.int i, .int j]
    · obtain ⟨i, j, rfl⟩ := h
      obtain ⟨v, w, rfl, r, r2⟩ := two_of rs
      cases r
      cases r2
      obtain ⟨c, z⟩ := rngD_of (i := i) (j := j) q1 a1.gd a1.rg
      exact ⟨i, j, rfl, c, z _ (.rng i (j - i).toNat)⟩
    · have e : fRange2 ds = stuck := by
        unfold fRange2
        split
        · exact absurd ⟨_, _, rfl⟩ h
        · rfl
      rw [e] at q1
      exact q1.elim⟩⟩
def forD (b : S → D → M (Fl S)) : List D → S → M (Fl S)
  | [], s => pure (.nx s)
  | d :: ds, s => b s d >>= fun r => match r with
    | .nx s' => forD b ds s'
    | .ct s' => forD b ds s'
    | .bk s' => pure (.nx s')
    | .ret v => pure (.ret v)
theorem drop_cons {α : Type} {xs : List α} {i : Nat} {d : α} (h : xs[i]? = some d) : xs.drop i = d :: xs.drop (i + 1) := by
  obtain ⟨h1, h2⟩ := List.getElem?_eq_some_iff.mp h
  rw [List.drop_eq_getElem_cons h1, h2]
theorem forD_nx (b : S → D → M (Fl S)) (d : D) (ds : List D) (s : S) : forD b (d :: ds) s = b s d >>= fun r => match r with
    | .nx s' => forD b ds s'
    | .ct s' => forD b ds s'
    | .bk s' => pure (.nx s')
    | .ret v => pure (.ret v) := rfl
theorem d1_for {γ : Type} {tg iter : Expr} {t : TG} {ps : List Nat} {body : List Stmt} {mi : M (List D)} {f : {α : Type} → (γ → M α) → D → M α} {up : γ → Ro → Ro} {b : S → γ → M (Fl S)} {s0 : S} {pos : Pos} (hK : W.K = X.K) (hp : PassesOwn (model X.prog X.w) X.A X.env X.xe) (hc : X.calm = true) (hi : PDi X W Wx tg iter ρ mi) (ht : TgD X W Wx tg t f up ps)
    (hs : Wk ρ (mk s0)) (hb : ∀ s c, PDs X W Wx body (up c (mk s)) mk (b s c)) (fbind : ∀ {α β : Type} (k : γ → M α) (l : α → M β) (d : D), (f k d >>= l) = f (fun c => k c >>= l) d) (hfs : ∀ x, foldedSetIterable iter X.env x = pure x := by intro _; rfl) : PD1 X W Wx (.For tg iter body [] pos) ρ mk (mi >>= fun ds => forD (fun s d => f (b s) d) ds s0) := by
  refine ⟨PSw (ps_for hp hc hi.p ht.pg (tb := fun D σ H => ∃ s c, tS W Wx (up c (mk s)) mk (b s c) D σ H) ⟨fun pins s σ H D I ⟨s', c, q⟩ => (hb s' c).p.run pins s σ H D I q⟩ (hs := hfs)) ?_⟩
  intro D σ H ⟨B, μ, F, g, a, q⟩
  refine ⟨_, μ, F, g, a.at_, (Run.bind q fun _ z => .inl z).mono (fun _ z => z) fun ds g1 μ1 F1 H1 f1 r1 q1 J it => ?_⟩
  have a1 := (a.fu f1 (fun _ z => z) r1).wk hs
  refine for_any (g := t) (tb := fun D σ H => ∃ s c, tS W Wx (up c (mk s)) mk (b s c) D σ H) (D0 := D) hK (fun i B0 μ F σ' H => B0 = (fun _ => False) ∧ σ'.length = σ.length ∧ ∃ g s, AtS W B μ F H g (mk s) σ' ∧ Run W Wx σ.length B μ F H (forD (fun s d => f (b s) d) (ds.drop i) s g) (EndQ W σ.length B D mk)) ⟨_, μ1, F1, r1.sub, it, rfl, rfl, g1, s0, a1, q1⟩ ?_ ?_
  · rintro i d x B0 μ F σ' H ed sub rx it' ⟨rfl, el, g2, s, a2, q2⟩
    rw [drop_cons ed, forD_nx, fbind] at q2
    refine ht.rd _ d _ B μ F H g2 _ (mk s) σ' x _ _ sub AtS.bears a2 rx q2 fun c σ2 e2 _ a3 q3 => ?_
    have n2 : σ2.length = σ.length := e2.trans el
    refine ⟨s, c, B, μ, F, g2, a3, ?_⟩
    rw [n2]
    refine (Run.bind q3 fun _ z => z).mono (fun _ z => z) fun r g3 μ3 F3 H3 f3 r3 q4 => ?_
    cases r with
    | nx s' => exact fun σ3 e3 a4 => ⟨_, μ3, F3, r3.sub, it'.fu f3 (fun _ z => z.elim), rfl, e3, g3, s', a4, q4⟩
    | ct s' => exact fun σ3 e3 a4 => ⟨_, μ3, F3, r3.sub, it'.fu f3 (fun _ z => z.elim), rfl, e3, g3, s', a4, q4⟩
    | bk s' => exact fun σ3 e3 a4 => Run.pure (a := (Fl.nx s' : Fl S)) q4 a4.gd r3 σ3 e3 a4
    | ret v =>
      have q5 : Run W Wx σ.length B μ3 F3 H3 ((pure (.ret v) : M (Fl S)) g3) (EndQ W σ.length B D mk) := q4
      exact fun w p => Run.pure q5 (a3.gd.fu f3 fun _ z => z) r3 w p
  · rintro B0 μ F σ' H ⟨_, el, g2, s, a2, q2⟩
    rw [List.drop_length] at q2
    exact Run.pure (a := (Fl.nx s : Fl S)) q2 a2.gd a2.rg σ' el a2
theorem on1_bind {α β : Type} (k : D → M α) (l : α → M β) (d : D) : (on1 k d >>= l : M β) = on1 (fun c => k c >>= l) d := rfl
theorem on2_bind {α β : Type} (k : D × D → M α) (l : α → M β) (d : D) : (on2 k d >>= l : M β) = on2 (fun c => k c >>= l) d := by
  unfold on2 un2
  split <;> rfl
theorem on3_bind {α β : Type} (k : D × D × D → M α) (l : α → M β) (d : D) : (on3 k d >>= l : M β) = on3 (fun c => k c >>= l) d := by
  unfold on3 un3
  split <;> rfl
theorem on4_bind {α β : Type} (k : D × D × D × D → M α) (l : α → M β) (d : D) : (on4 k d >>= l : M β) = on4 (fun c => k c >>= l) d := by
  unfold on4 un4
  split <;> rfl
def whileD (c : S → M Bool) (b : S → M (Fl S)) : Nat → S → M (Fl S)
  | 0, _ => stuck
  | n + 1, s => c s >>= fun t => if t = true then b s >>= fun r => (match r with
    | .nx s' => whileD c b n s'
    | .ct s' => whileD c b n s'
    | .bk s' => pure (.nx s')
    | .ret v => pure (.ret v)) else pure (.nx s)
theorem d1_while {e : Expr} {body : List Stmt} {c : S → M Bool} {b : S → M (Fl S)} {s0 : S} {pos : Pos} (n : Nat) (hp : PassesOwn (model X.prog X.w) X.A X.env X.xe) (hs : Wk ρ (mk s0)) (hc : ∀ s, PDt X W Wx e (mk s) (c s)) (hb : ∀ s, PDs X W Wx body (mk s) mk (b s)) :
    PD1 X W Wx (.While e body [] pos) ρ mk (whileD c b n s0) := by
  refine ⟨PSw (ps_while hp (tc := fun σ H Q => ∃ s, tT W Wx (mk s) (c s) σ H Q) (tb := fun D σ H => ∃ s, tS W Wx (mk s) mk (b s) D σ H) ⟨fun pins s σ H Q I ⟨s', q⟩ => (hc s').p.run pins s σ H Q I q⟩ ⟨fun pins s σ H D I ⟨s', q⟩ => (hb s').p.run pins s σ H D I q⟩) ?_⟩
  intro D σ H ⟨B, μ, F, g, a, q⟩
  refine ⟨fun m σ' H => σ'.length = σ.length ∧ ∃ μ F g s, AtS W B μ F H g (mk s) σ' ∧ Run W Wx σ.length B μ F H (whileD c b m s g) (EndQ W σ.length B D mk), ⟨n, rfl, μ, F, g, s0, a.wk hs, q⟩, ?_⟩
  rintro m σ1 H1 ⟨el, μ1, F1, g1, s, a1, q1⟩
  cases m with
  | zero => exact q1.elim
  | succ m =>
    have q2 : Run W Wx σ.length B μ1 F1 H1 ((c s >>= fun t => if t = true then b s >>= fun r => (match r with
      | .nx s' => whileD c b m s'
      | .ct s' => whileD c b m s'
      | .bk s' => pure (.nx s')
      | .ret v => pure (.ret v)) else pure (.nx s) : M (Fl S)) g1) (EndQ W σ.length B D mk) := q1
    refine ⟨s, _, μ1, F1, g1, a1.at_, ?_⟩
    rw [el]
    refine (Run.bind q2 fun _ z => .inl z).mono (fun _ z => z) fun t g2 μ2 F2 H2 f2 r2 q3 => ?_
    have a2 := a1.fu f2 (fun _ z => z) r2
    cases t with
    | false => exact Run.pure (a := (Fl.nx s : Fl S)) q3 a2.gd r2 σ1 el a2
    | true =>
      refine ⟨_, fun σ' H' z => ⟨m, Nat.lt_succ_self m, z⟩, s, B, μ2, F2, g2, a2, ?_⟩
      rw [el]
      have q4 : Run W Wx σ.length B μ2 F2 H2 ((b s >>= fun r => (match r with
      | .nx s' => whileD c b m s'
      | .ct s' => whileD c b m s'
      | .bk s' => pure (.nx s')
      | .ret v => pure (.ret v)) : M (Fl S)) g2) (EndQ W σ.length B D mk) := q3
      refine (Run.bind q4 fun _ z => z).mono (fun _ z => z) fun r g3 μ3 F3 H3 f3 r3 q5 => ?_
      cases r with
      | nx s' => exact fun σ3 e3 a4 => ⟨e3, μ3, F3, g3, s', a4, q5⟩
      | ct s' => exact fun σ3 e3 a4 => ⟨e3, μ3, F3, g3, s', a4, q5⟩
      | bk s' => exact fun σ3 e3 a4 => Run.pure (a := (Fl.nx s' : Fl S)) q5 a4.gd r3 σ3 e3 a4
      | ret v =>
        have q6 : Run W Wx σ.length B μ3 F3 H3 ((pure (.ret v) : M (Fl S)) g3) (EndQ W σ.length B D mk) := q5
        exact fun w p => Run.pure q6 (a2.gd.fu f3 fun _ z => z) r3 w p
end
end PD
namespace PD
open PySem PySem.Spec L2
open PyProof.Rows hiding St
section
variable {W : Wd} {K : PySem.W.Frag} {B : Addr → Prop} {μ : List Addr} {F H H' : Hp} {J : It} {ds : List D} {i : Nat} {d : D} {x : V}
theorem it_go (hK : W.K = K) (sub : Same F H) (it : ItD W K B μ F H J ds) (hlt : i < ds.length) : J.go i H := by
  have ed : ds[i]? = some ds[i] := List.getElem?_eq_getElem hlt
  cases it with
  | @lst a vs _ h r =>
    obtain ⟨v, ev, _⟩ := r.get ed
    refine ⟨vs, v, ?_, ev⟩
    rcases h with h | ⟨h1, _⟩
    · exact sub.seq (hK ▸ h)
    · exact SqL.of h1
  | @tup a vs _ h r =>
    obtain ⟨v, ev, _⟩ := r.get ed
    exact ⟨vs, v, Same.tup sub (hK ▸ h), ev⟩
  | rng lo n =>
    have z := hlt
    rw [List.length_map, List.length_range] at z
    exact z
  | str x =>
    have z := hlt
    rw [List.length_map, Array.length_toList] at z
    exact z
theorem it_yld (hK : W.K = K) (sub : Same F H) (it : ItD W K B μ F H J ds) (ed : ds[i]? = some d) (y : J.yld i H x H') : H' = H ∧ Rep W μ F d x := by
  cases it with
  | @lst a vs _ h r =>
    obtain ⟨e, y⟩ := y
    obtain ⟨v, ev, rv⟩ := r.get ed
    have q : SqL K H a vs := by
      rcases h with h | ⟨h1, _⟩
      · exact sub.seq (hK ▸ h)
      · exact SqL.of h1
    have := y vs q
    rw [ev] at this
    cases this
    exact ⟨e, rv⟩
  | @tup a vs _ h r =>
    obtain ⟨e, y⟩ := y
    obtain ⟨v, ev, rv⟩ := r.get ed
    have := y vs (Same.tup sub (hK ▸ h))
    rw [ev] at this
    cases this
    exact ⟨e, rv⟩
  | rng lo n =>
    obtain ⟨e, y⟩ := y
    subst y
    refine ⟨e, ?_⟩
    rw [List.getElem?_map] at ed
    cases q : (List.range n)[i]? with
    | none => rw [q] at ed; cases ed
    | some k =>
      rw [q] at ed
      have hk : k = i := by
        obtain ⟨h1, h2⟩ := List.getElem?_eq_some_iff.mp q
        rw [List.getElem_range] at h2
        exact h2.symm
      subst hk
      cases ed
      exact .int _
  | str z =>
    obtain ⟨e, c, ec, y⟩ := y
    subst y
    refine ⟨e, ?_⟩
    have h2 : z.cps.toList[i]? = some c := by rw [Array.getElem?_toList]; exact ec
    rw [List.getElem?_map, h2] at ed
    cases ed
    exact .str _
theorem it_stop (hK : W.K = K) (sub : Same F H) (it : ItD W K B μ F H J ds) (hge : ds.length ≤ i) : J.stop i H := by
  cases it with
  | @lst a vs _ h r =>
    refine ⟨vs, ?_, by rw [← r.length]; exact hge⟩
    rcases h with h | ⟨h1, _⟩
    · exact sub.seq (hK ▸ h)
    · exact SqL.of h1
  | @tup a vs _ h r => exact ⟨vs, Same.tup sub (hK ▸ h), by rw [← r.length]; exact hge⟩
  | rng lo n =>
    rw [List.length_map, List.length_range] at hge
    exact hge
  | str x =>
    rw [List.length_map, Array.length_toList] at hge
    exact hge
end
def nox {α : Type} (m : M α) : M α := fun g => match m g with
  | .ok a g' => .ok a g'
  | .ex _ _ => .st
  | .st => .st
theorem nox_pure {α : Type} (a : α) : nox (Pure.pure a : M α) = Pure.pure a := rfl
abbrev Wf : WX := fun _ _ _ _ => False
theorem Run.nox {α : Type} {W : Wd} {Wx : WX} {n n' : Nat} {B : Addr → Prop} {μ : List Addr} {F H : Hp} {m : M α} {g : GS} {Q : α → GS → List Addr → Hp → Hp → Prop} (h : Run W Wx n B μ F H (PD.nox m g) Q) : Run W Wf n' B μ F H (m g) Q := by
  unfold PD.nox at h
  cases e : m g with
  | ok a g' => rw [e] at h; exact h
  | ex ee g' => rw [e] at h; exact h.elim
  | st => rw [e] at h; exact h.elim
theorem Run.len {α : Type} {W : Wd} {n n' : Nat} {B : Addr → Prop} {μ : List Addr} {F H : Hp} {o : Out α} {Q : α → GS → List Addr → Hp → Hp → Prop} (h : Run W Wf n B μ F H o Q) : Run W Wf n' B μ F H o Q := by
  cases o with
  | ok a g' => exact h
  | ex e g' => exact fun μ' F' H' cls d σ' f r x _ => h μ' F' H' cls d (List.replicate n none) f r x (by simp)
  | st => exact h
def wipeR (ρ : Ro) : List Nat → Ro
  | [] => ρ
  | v :: vs => (wipeR ρ vs).set v .un
theorem Rel.wipe {W : Wd} {μ : List Addr} {F H : Hp} {ρ : Ro} {σ : L2.St} (h : Rel W μ F H ρ σ) : ∀ vs, Rel W μ F H (wipeR ρ vs) (wipe σ vs)
  | [] => h
  | v :: vs => (Rel.wipe h vs).setU
theorem Owns.wipe {ρ : Ro} {σ : L2.St} {a : Addr} : ∀ {vs : List Nat}, Owns (wipeR ρ vs) (wipe σ vs) a → Owns ρ σ a
  | [], h => h
  | v :: vs, h => by
    rcases Owns.set (show Owns ((wipeR ρ vs).set v .un) ((L2.wipe σ vs).set v none) a from h) with z | z
    · cases z.1
    · exact Owns.wipe z
theorem At.wipe {W : Wd} {B : Addr → Prop} {μ : List Addr} {F H : Hp} {g : GS} {ρ : Ro} {σ : L2.St} (a : At W B μ F H g ρ σ) (vs : List Nat) : At W B μ F H g (wipeR ρ vs) (wipe σ vs) := ⟨a.gd, a.rel.wipe vs, a.rg, fun x z => a.own x z.wipe⟩
theorem At.setD {W : Wd} {B : Addr → Prop} {μ : List Addr} {F H : Hp} {g : GS} {ρ : Ro} {σ : L2.St} {i : Nat} {x : D} {v : V} (a : At W B μ F H g ρ σ) (r : Rep W μ F x v) : At W B μ F H g (ρ.set i (.d x)) (σ.set i (some v)) :=
  ⟨a.gd, a.rel.setD r, a.rg, fun y z => z.set.elim (fun q => by cases q.1) (a.own y)⟩
theorem At.bears {W : Wd} {B : Addr → Prop} {μ : List Addr} {F H : Hp} {g : GS} : Bears W μ F fun ρ σ => At W B μ F H g ρ σ := fun _ _ _ _ _ a r => a.setD r
structure PDts (X : Cx) (W : Wd) (Wx : WX) (ifs : List Expr) (ρ : Ro) (m : M Bool) : Prop where
  p : PTs X ifs (tT W Wx ρ m)
section
variable {X : Cx} {W : Wd} {Wx : WX} {ρ : Ro} {S : Type} {mk : S → Ro} {rest : List Stmt}
theorem ts_nil : PDts X W Wx [] ρ (pure true) := ⟨⟨fun pins s σ H Q I ⟨B, μ, F, g, a, q⟩ => pts_nil.run pins s σ H Q I (Run.pure q a.gd a.rg)⟩⟩
theorem ts_one {c : Expr} {m : M Bool} (h : PDt X W Wx c ρ m) : PDts X W Wx [c] ρ m := ⟨pts_one h.p⟩
def lcB {γ : Type} (t : γ → M Bool) (e : γ → M D) (c : γ) : M (Option D) := t c >>= fun k => if k = true then e c >>= fun y => pure (some y) else pure none
def lcD (b : D → M (Option D)) : List D → List D → M (List D)
  | [], acc => pure acc
  | d :: ds, acc => nox (b d) >>= fun o => match o with
    | some y => if acc.length < sizeLine then lcD b ds (acc ++ [y]) else stuck
    | none => lcD b ds acc
structure LcAt (W : Wd) (B : Addr → Prop) (μ : List Addr) (F H : Hp) (l : Addr) (acc : List D) : Prop where
  out : F l = none
  no : ∀ n : Nat, μ[n]? ≠ some l
  nB : ¬ B l
  ls : ∃ vs, H l = some (.lst vs) ∧ Reps W μ F acc vs
theorem At.more {B : Addr → Prop} {μ : List Addr} {F H : Hp} {g : GS} {σ : L2.St} {l : Addr} {acc : List D} (a : At W B μ F H g ρ σ) (k : LcAt W B μ F H l acc) : At W (fun b => B b ∨ b = l) μ F H g ρ σ :=
  ⟨fun b z => z.elim (a.gd b) fun z => by
    subst z
    obtain ⟨vs, e, _⟩ := k.ls
    exact ⟨k.out, by rw [e]; simp⟩, a.rel, a.rg, fun b z => .inl (a.own b z)⟩
theorem LcAt.fu {B : Addr → Prop} {μ μ' : List Addr} {F F' H H' : Hp} {l : Addr} {acc : List D} (k : LcAt W B μ F H l acc) (f : Fu (fun b => B b ∨ b = l) μ F H μ' F' H') : LcAt W B μ' F' H' l acc := by
  obtain ⟨vs, e, r⟩ := k.ls
  exact ⟨f.out l (.inr rfl), fun n q => (f.new n l (.inr rfl) q).elim (k.no n) (fun z => by rw [e] at z; cases z), k.nB, vs, f.keep _ _ (.inr rfl) e k.no, r.mono f.grow f.fro⟩
theorem LcAt.put {B : Addr → Prop} {μ : List Addr} {F H : Hp} {g : GS} {σ : L2.St} {l : Addr} {acc : List D} {y : D} {v : V} (k : LcAt W B μ F H l acc) (a : At W B μ F H g ρ σ) (r : Rep W μ F y v) :
    ∃ vs, H l = some (.lst vs) ∧ vs.length = acc.length ∧ Fu B μ F H μ F (upd H l (.lst (vs ++ [v]))) ∧ RG W g μ F (upd H l (.lst (vs ++ [v]))) ∧ LcAt W B μ F (upd H l (.lst (vs ++ [v]))) l (acc ++ [y]) := by
  obtain ⟨vs, e, rs⟩ := k.ls
  refine ⟨vs, e, rs.length.symm, ⟨.refl, fun _ _ _ h => .inl h, .refl F, fun b u hb e2 _ => ?_, fun b z => (a.gd b z).1, fun b z => ?_⟩, ⟨fun b u e2 => ?_, a.rg.len, a.rg.nd, a.rg.out, fun n b u e1 e2 => (a.rg.at_ n b u e1 e2).fu .refl (.refl F) fun z q => ?_⟩, k.out, k.no, k.nB, _, upd_same, rs.append (.one r)⟩
  · rw [upd_ne (fun q => k.nB (by rw [← q]; exact hb))]
    exact e2
  · by_cases q : b = l
    · subst q
      rw [upd_same]
      simp
    · rw [upd_ne q]
      exact z
  · rw [upd_ne (ne_of_none e2 k.out)]
    exact a.rg.sub b u e2
  · rw [upd_ne (fun q2 => k.no n (by rw [e1, q2]))]
    exact q
theorem lcD_cons (b : D → M (Option D)) (d : D) (ds acc : List D) : lcD b (d :: ds) acc = nox (b d) >>= fun o => match o with
    | some y => if acc.length < sizeLine then lcD b ds (acc ++ [y]) else stuck
    | none => lcD b ds acc := rfl
theorem lc_read {γ : Type} {K : PySem.W.Frag} {mi : M (List D)} {t : TG} {f : {α : Type} → (γ → M α) → D → M α} {up : γ → Ro → Ro} {ps vs : List Nat} {Y : Cx} {tg : Expr} (ht : TgD Y W Wf tg t f up ps) (hps : ∀ i ∈ ps, i ∈ vs) {tc : γ → M Bool} {te : γ → M D} (hK : W.K = K) {σ : L2.St} {H : Hp} {Q : VK}
    (q : tN W Wx ρ (mi >>= fun ds => lcD (fun d => f (lcB tc te) d) ds []) σ H Q) :
    tLc (tJ W Wx K ρ mi) t (fun σ H Q => ∃ c, tT W Wf (up c (wipeR ρ vs)) (tc c) σ H Q) (fun σ H Q => ∃ c, tE W Wf (up c (wipeR ρ vs)) (te c) σ H Q) vs σ H Q := by
  obtain ⟨B, μ, F, g, a, q⟩ := q
  refine ⟨B, μ, F, g, a, (Run.bind q fun _ z => z).mono (fun _ z => z) fun ds g1 μ1 F1 H1 f1 r1 q1 J it l hl => ?_⟩
  have a1 := a.fu f1 (fun _ z => z) r1
  have nB : ¬ B l := fun z => (a1.gd l z).2 hl
  have fu0 := Fu.own (o := .lst []) (μ := μ1) (F := F1) a1.gd hl
  have a2 := a1.fu fu0 (fun _ z => z) (r1.own hl)
  have l2 : LcAt W B μ1 F1 (upd H1 l (.lst [])) l [] := ⟨free_of r1.sub hl, r1.notin hl, nB, [], upd_same, .nil⟩
  let P : List D → GS → List Addr → Hp → Hp → Prop := fun ds _ μ' F' H' => ∀ l vs, H l = none → H' l = some (.lst vs) → F' l = none → (∀ n : Nat, μ'[n]? ≠ some l) → Reps W μ' F' ds vs → Q (.ref l) H'
  let Pv : Nat → Hp → Prop := fun i H2 => ∃ μ2 F2 g2 acc, At W B μ2 F2 H2 g2 ρ σ ∧ ItD W K B μ2 F2 H2 J ds ∧ LcAt W B μ2 F2 H2 l acc ∧ Run W Wx σ.length B μ2 F2 H2 (lcD (fun d => f (lcB tc te) d) (ds.drop i) acc g2) P
  have hl0 : H l = none := stay_none f1 hl
  refine ⟨fun i m H2 => m = ds.length - i ∧ i ≤ ds.length ∧ Pv i H2, ⟨_, rfl, Nat.zero_le _, μ1, F1, g1, [], a2, it.fu fu0 fun _ z => z, l2, q1.later fu0 fun _ z => z⟩, ?_⟩
  rintro i m H2 ⟨rfl, hi, μ2, F2, g2, acc, a3, it2, l3, q2⟩
  by_cases hlt : i < ds.length
  · have ed : ds[i]? = some ds[i] := List.getElem?_eq_getElem hlt
    refine .inr ⟨it_go hK a3.rg.sub it2 hlt, Pv (i + 1), fun H' z => ⟨_, by omega, rfl, hlt, z⟩, fun x H' y => ?_⟩
    obtain ⟨e, rx⟩ := it_yld hK a3.rg.sub it2 ed y
    subst e
    rw [drop_cons ed, lcD_cons] at q2
    have q3 := Run.bind (B' := fun b => B b ∨ b = l) q2 fun _ z => .inl z
    have q4 := Run.nox (n' := 0) q3
    have aw := (a3.more l3).wipe vs
    refine ht.rd _ _ _ _ μ2 F2 _ g2 _ (wipeR ρ vs) (wipe σ vs) x _ _ a3.rg.sub At.bears aw rx q4 fun c σ' el hw a4 q5 => ⟨?_, ?_⟩
    · rw [hw vs hps]
      refine List.ext_getElem? fun j => ?_
      by_cases hj : j ∈ vs
      · by_cases h2 : j < σ.length
        · rw [wipe_at hj (by rw [wipe_length]; exact h2), wipe_at hj h2]
        · rw [List.getElem?_eq_none (by rw [wipe_length, wipe_length]; omega), List.getElem?_eq_none (by rw [wipe_length]; omega)]
      · rw [wipe_out hj]
    · have q6 := Run.bind (B' := fun b => B b ∨ b = l) q5 fun _ z => z
      refine ⟨c, _, μ2, F2, g2, a4, ?_⟩
      refine Run.mono (n := _) (Run.len q6) (fun _ z => z) fun k g3 μ3 F3 H3 f3 r3 q7 => ?_
      have a5 := a4.fu f3 (fun _ z => z) r3
      have b3 := a3.fu (f3.less fun _ z => .inl z) (fun _ z => z) r3
      have l4 := l3.fu f3
      have it3 := it2.fu (f3.less fun b (z : B b) => .inl z) fun _ z => z
      cases k with
      | false =>
        have q8 := Run.pure (a := (none : Option D)) q7 a5.gd r3
        exact ⟨μ3, F3, g3, acc, b3, it3, l4, q8⟩
      | true =>
        have q8 : Run W Wf 0 (fun b => B b ∨ b = l) μ3 F3 H3 ((te c >>= fun y => (pure (some y) : M (Option D))) g3) _ := q7
        refine ⟨c, _, μ3, F3, g3, a5, ?_⟩
        refine Run.mono (Run.len (Run.bind (B' := fun b => B b ∨ b = l) q8 fun _ z => z)) (fun _ z => z) fun yd g4 μ4 F4 H4 f4 r4 q9 v rv => ?_
        have b4 := b3.fu (f4.less fun _ z => .inl z) (fun _ z => z) r4
        have l5 := l4.fu f4
        have it4 := it3.fu (f4.less fun b (z : B b) => .inl z) fun _ z => z
        have q10 := Run.pure (a := (some yd : Option D)) q9 ((a5.fu f4 (fun _ z => z) r4).gd) r4
        obtain ⟨ws, e1, e2, fu5, rg5, l6⟩ := l5.put b4 rv
        by_cases c2 : acc.length < sizeLine
        · have q11 : Run W Wx σ.length B μ4 F4 H4 ((if acc.length < sizeLine then lcD (fun d => f (lcB tc te) d) (ds.drop (i + 1)) (acc ++ [yd]) else stuck : M (List D)) g4) P := q10
          rw [if_pos c2] at q11
          exact ⟨ws, e1, by rw [e2]; exact c2, μ4, F4, g4, acc ++ [yd], b4.fu fu5 (fun _ z => z) rg5, it4.fu fu5 fun _ z => z, l6, q11.later fu5 fun _ z => z⟩
        · have q11 : Run W Wx σ.length B μ4 F4 H4 ((if acc.length < sizeLine then lcD (fun d => f (lcB tc te) d) (ds.drop (i + 1)) (acc ++ [yd]) else stuck : M (List D)) g4) P := q10
          rw [if_neg c2] at q11
          exact q11.elim
  · have e : i = ds.length := by omega
    subst e
    rw [List.drop_length] at q2
    obtain ⟨ws, e1, rs⟩ := l3.ls
    exact .inl ⟨it_stop hK a3.rg.sub it2 (Nat.le_refl _), Run.pure q2 a3.gd a3.rg l ws hl0 e1 l3.out l3.no rs⟩
theorem pn_lc {γ : Type} {elt tg iter : Expr} {ifs : List Expr} {scope : Scope} {own : List (Str × Nat)} {pos : Pos} {mi : M (List D)} {t : TG} {f : {α : Type} → (γ → M α) → D → M α} {up : γ → Ro → Ro} {ps : List Nat} {tc : γ → M Bool} {te : γ → M D} (hK : W.K = X.K) (hc : X.calm = true) (hN : X.N.Nodup) (hi : PDj X W Wx tg iter ρ mi)
    (ok : BlkOk X.N X.env.scope scope own) (hg : ∀ (s : Shared) (H : Hp) (C : Addr) (cl : List (Str × Addr)) (fp : List Addr), TgD (X.blk s H scope (compEnvC scope cl C X.env) fp) W Wf tg t f up ps)
    (ht : ∀ (s : Shared) (H : Hp) (C : Addr) (cl : List (Str × Addr)) (fp : List Addr) (c : γ), PDts (X.blk s H scope (compEnvC scope cl C X.env) fp) W Wf ifs (up c (wipeR ρ (own.map (·.2)))) (tc c))
    (he : ∀ (s : Shared) (H : Hp) (C : Addr) (cl : List (Str × Addr)) (fp : List Addr) (c : γ), PDe (X.blk s H scope (compEnvC scope cl C X.env) fp) W Wf elt (up c (wipeR ρ (own.map (·.2)))) (te c)) (hps : ∀ i ∈ ps, i ∈ own.map (·.2) := by decide)
    (hs : ∀ x, foldedSetIterable iter X.env x = pure x := by intro _; rfl) : PDn X W Wx (.ListComp elt [⟨tg, iter, ifs, 0⟩] scope pos) ρ (mi >>= fun ds => lcD (fun d => f (lcB tc te) d) ds []) :=
  ⟨PEw (pe_lc (tt := fun σ H Q => ∃ c, tT W Wf (up c (wipeR ρ (own.map (·.2)))) (tc c) σ H Q) (te := fun σ H Q => ∃ c, tE W Wf (up c (wipeR ρ (own.map (·.2)))) (te c) σ H Q) hc hN hi.p ok (fun s H C cl fp => (hg s H C cl fp).pg)
    (fun s H C cl fp => ⟨fun pins s1 σ H1 Q I ⟨c, q⟩ => (ht s H C cl fp c).p.run pins s1 σ H1 Q I q⟩) (fun s H C cl fp => ⟨fun pins s1 σ H1 Q I ⟨c, q⟩ => (he s H C cl fp c).p.run pins s1 σ H1 Q I q⟩) hs) fun σ H Q q => lc_read (hg X.s_0 X.H_0 0 [] []) hps hK q⟩
theorem ds_setLc {γ : Type} (i : Nat) {y : Str} {py : Pos} {elt tg iter : Expr} {ifs : List Expr} {scope : Scope} {own : List (Str × Nat)} {pos spos : Pos} {mi : M (List D)} {t : TG} {f : {α : Type} → (γ → M α) → D → M α} {up : γ → Ro → Ro} {ps : List Nat} {tc : γ → M Bool} {te : γ → M D} {k : List D → M (Fl S)} (hK : W.K = X.K) (hc : X.calm = true) (hN : X.N.Nodup) (hi : PDj X W Wx tg iter ρ mi)
    (ok : BlkOk X.N X.env.scope scope own) (hg : ∀ (s : Shared) (H : Hp) (C : Addr) (cl : List (Str × Addr)) (fp : List Addr), TgD (X.blk s H scope (compEnvC scope cl C X.env) fp) W Wf tg t f up ps)
    (ht : ∀ (s : Shared) (H : Hp) (C : Addr) (cl : List (Str × Addr)) (fp : List Addr) (c : γ), PDts (X.blk s H scope (compEnvC scope cl C X.env) fp) W Wf ifs (up c (wipeR ρ (own.map (·.2)))) (tc c))
    (he : ∀ (s : Shared) (H : Hp) (C : Addr) (cl : List (Str × Addr)) (fp : List Addr) (c : γ), PDe (X.blk s H scope (compEnvC scope cl C X.env) fp) W Wf elt (up c (wipeR ρ (own.map (·.2)))) (te c)) (hr : ∀ ds, PDs X W Wx rest (ρ.set i (.ol ds)) mk (k ds))
    (hsw : swapsWith (.ListComp elt [⟨tg, iter, ifs, 0⟩] scope pos) (some (.Name y py)) spos.line X.env = pure true) (hps : ∀ i ∈ ps, i ∈ own.map (·.2) := by decide) (hy : X.N[i]? = some y := by rfl) (hyl : X.env.scope.names.lookup y = some .local := by rfl)
    (hs : ∀ x, foldedSetIterable iter X.env x = pure x := by intro _; rfl) : PDs X W Wx (.Assign [.Name y py] (.ListComp elt [⟨tg, iter, ifs, 0⟩] scope pos) spos :: rest) ρ mk ((mi >>= fun ds => lcD (fun d => f (lcB tc te) d) ds []) >>= k) := by
  refine ⟨PSsw (pss_cons (ps_setLc (tt := fun σ H Q => ∃ c, tT W Wf (up c (wipeR ρ (own.map (·.2)))) (tc c) σ H Q) (te := fun σ H Q => ∃ c, tE W Wf (up c (wipeR ρ (own.map (·.2)))) (te c) σ H Q) hc hN hy hyl hsw hi.p ok (fun s H C cl fp => (hg s H C cl fp).pg)
    (fun s H C cl fp => ⟨fun pins s1 σ H1 Q I ⟨c, q⟩ => (ht s H C cl fp c).p.run pins s1 σ H1 Q I q⟩) (fun s H C cl fp => ⟨fun pins s1 σ H1 Q I ⟨c, q⟩ => (he s H C cl fp c).p.run pins s1 σ H1 Q I q⟩) hs)
    (u := fun D σ H => ∃ ds, tS W Wx (ρ.set i (.ol ds)) mk (k ds) D σ H) ⟨fun pins s σ H D I ⟨c, q⟩ => (hr c).p.run pins s σ H D I q⟩) ?_⟩
  intro D σ H ⟨B, μ, F, g, a, q⟩
  refine lc_read (Q := fun x H1 => gName i x σ H1 fun σ H => ∃ ds, tS W Wx (ρ.set i (.ol ds)) mk (k ds) D σ H) (hg X.s_0 X.H_0 0 [] []) hps hK ⟨_, μ, F, g, a.at_, (Run.bind q fun _ z => .inl z).mono (fun _ z => z) fun ds g1 μ1 F1 H1 f1 r1 q1 l vs e0 e1 e2 e3 rs => ?_⟩
  exact ⟨ds, B, μ1, F1, g1, a.setX (a.fu f1 (fun _ z => z) r1) ⟨l, vs, rfl, e0, e1, e2, e3, rs⟩, by rw [List.length_set]; exact q1⟩
def lc2D {γ : Type} (f : {α : Type} → (γ → M α) → D → M α) (t : γ → M Bool) (src : γ → M (List D)) (b : γ → D → M (Option D)) : List D → List D → M (List D)
  | [], acc => pure acc
  | d :: ds, acc => nox (f (fun c => t c >>= fun k => if k = true then src c >>= fun es => pure (some (c, es)) else pure none) d) >>= fun o => match o with
    | some (c, es) => lcD (b c) es acc >>= fun acc' => lc2D f t src b ds acc'
    | none => lc2D f t src b ds acc
theorem lc2_read {γ γ1 : Type} {K : PySem.W.Frag} {mi : M (List D)} {t : TG} {f : {α : Type} → (γ → M α) → D → M α} {up : γ → Ro → Ro} {ps vs : List Nat} {Y : Cx} {tg : Expr} (ht : TgD Y W Wf tg t f up ps) (hps : ∀ i ∈ ps, i ∈ vs)
    {t1 : TG} {f1 : {α : Type} → (γ1 → M α) → D → M α} {up1 : γ1 → Ro → Ro} {ps1 vs1 : List Nat} {Y1 : Cx} {tg1 : Expr} (ht1 : TgD Y1 W Wf tg1 t1 f1 up1 ps1) (hps1 : ∀ i ∈ ps1, i ∈ vs1)
    {tc : γ → M Bool} {src : γ → M (List D)} {tc1 : γ → γ1 → M Bool} {te : γ → γ1 → M D} (hK : W.K = K) {σ : L2.St} {H : Hp} {Q : VK}
    (q : tN W Wx ρ (mi >>= fun ds => lc2D f tc src (fun c d => f1 (lcB (tc1 c) (te c)) d) ds []) σ H Q) :
    tLc2 (tJ W Wx K ρ mi) t (fun σ H Q => ∃ c, tT W Wf (up c (wipeR ρ vs)) (tc c) σ H Q) (fun σ H R => ∃ c, tI W Wf K (up c (wipeR ρ vs)) (src c) σ H R) t1 (fun σ H Q => ∃ c c1, tT W Wf (up1 c1 (wipeR (up c (wipeR ρ vs)) vs1)) (tc1 c c1) σ H Q)
      (fun σ H Q => ∃ c c1, tE W Wf (up1 c1 (wipeR (up c (wipeR ρ vs)) vs1)) (te c c1) σ H Q) vs vs1 σ H Q := by
  obtain ⟨B, μ, F, g, a, q⟩ := q
  refine ⟨B, μ, F, g, a, (Run.bind q fun _ z => z).mono (fun _ z => z) fun ds g1 μ1 F1 H1 fa r1 q1 J it l hl => ?_⟩
  have a1 := a.fu fa (fun _ z => z) r1
  have nB : ¬ B l := fun z => (a1.gd l z).2 hl
  have fu0 := Fu.own (o := .lst []) (μ := μ1) (F := F1) a1.gd hl
  have a2 := a1.fu fu0 (fun _ z => z) (r1.own hl)
  have l2 : LcAt W B μ1 F1 (upd H1 l (.lst [])) l [] := ⟨free_of r1.sub hl, r1.notin hl, nB, [], upd_same, .nil⟩
  let P : List D → GS → List Addr → Hp → Hp → Prop := fun ds _ μ' F' H' => ∀ l vs, H l = none → H' l = some (.lst vs) → F' l = none → (∀ n : Nat, μ'[n]? ≠ some l) → Reps W μ' F' ds vs → Q (.ref l) H'
  let bd : γ → D → M (Option D) := fun c d => f1 (lcB (tc1 c) (te c)) d
  let Pv : Nat → Hp → Prop := fun i H2 => ∃ μ2 F2 g2 acc, At W B μ2 F2 H2 g2 ρ σ ∧ ItD W K B μ2 F2 H2 J ds ∧ LcAt W B μ2 F2 H2 l acc ∧ Run W Wx σ.length B μ2 F2 H2 (lc2D f tc src bd (ds.drop i) acc g2) P
  have hl0 : H l = none := stay_none fa hl
  refine ⟨fun i m H2 => m = ds.length - i ∧ i ≤ ds.length ∧ Pv i H2, ⟨_, rfl, Nat.zero_le _, μ1, F1, g1, [], a2, it.fu fu0 fun _ z => z, l2, q1.later fu0 fun _ z => z⟩, ?_⟩
  rintro i m H2 ⟨rfl, hi, μ2, F2, g2, acc, a3, it2, l3, q2⟩
  by_cases hlt : i < ds.length
  · have ed : ds[i]? = some ds[i] := List.getElem?_eq_getElem hlt
    refine .inr ⟨it_go hK a3.rg.sub it2 hlt, Pv (i + 1), fun H' z => ⟨_, by omega, rfl, hlt, z⟩, fun x H' y => ?_⟩
    obtain ⟨e, rx⟩ := it_yld hK a3.rg.sub it2 ed y
    subst e
    rw [drop_cons ed] at q2
    have q2' : Run W Wx σ.length B μ2 F2 H' ((nox (f (fun c => tc c >>= fun k => if k = true then src c >>= fun es => pure (some (c, es)) else pure none) ds[i]) >>= fun o => match o with
      | some (c, es) => lcD (bd c) es acc >>= fun acc' => lc2D f tc src bd (ds.drop (i + 1)) acc'
      | none => lc2D f tc src bd (ds.drop (i + 1)) acc : M (List D)) g2) P := q2
    have q3 := Run.bind (B' := fun b => B b ∨ b = l) q2' fun _ z => .inl z
    have q4 := Run.nox (n' := 0) q3
    have aw := a3.wipe vs
    refine ht.rd _ _ _ _ μ2 F2 _ g2 _ (wipeR ρ vs) (wipe σ vs) x _ _ a3.rg.sub At.bears aw rx q4 fun c σ' el hw aB q5 => ⟨?_, ?_⟩
    · rw [hw vs hps]
      refine List.ext_getElem? fun j => ?_
      by_cases hj : j ∈ vs
      · by_cases h2 : j < σ.length
        · rw [wipe_at hj (by rw [wipe_length]; exact h2), wipe_at hj h2]
        · rw [List.getElem?_eq_none (by rw [wipe_length, wipe_length]; omega), List.getElem?_eq_none (by rw [wipe_length]; omega)]
      · rw [wipe_out hj]
    · have a4 := aB.more l3
      have q6 := Run.bind (B' := fun b => B b ∨ b = l) q5 fun _ z => z
      refine ⟨c, _, μ2, F2, g2, a4, ?_⟩
      refine Run.mono (n := _) (Run.len q6) (fun _ z => z) fun k g3 μ3 F3 H3 f3 r3 q7 => ?_
      have a5 := a4.fu f3 (fun _ z => z) r3
      have b3 := a3.fu (f3.less fun _ z => .inl z) (fun _ z => z) r3
      have l4 := l3.fu f3
      have it3 := it2.fu (f3.less fun b (z : B b) => .inl z) fun _ z => z
      cases k with
      | false =>
        have q8 := Run.pure (a := (none : Option (γ × List D))) q7 a5.gd r3
        exact ⟨μ3, F3, g3, acc, b3, it3, l4, q8⟩
      | true =>
        have q8 : Run W Wf 0 (fun b => B b ∨ b = l) μ3 F3 H3 ((src c >>= fun es => (pure (some (c, es)) : M (Option (γ × List D)))) g3) _ := q7
        refine ⟨c, _, μ3, F3, g3, a5, ?_⟩
        refine Run.mono (Run.len (Run.bind (B' := fun b => B b ∨ b = l) q8 fun _ z => z)) (fun _ z => z) fun es g4 μ4 F4 H4 f4 r4 q9 J1 it1 => ?_
        have b4 := b3.fu (f4.less fun _ z => .inl z) (fun _ z => z) r4
        have a6 := a5.fu f4 (fun _ z => z) r4
        have aB4 := (aB.fu (f3.less fun _ z => .inl z) (fun _ z => z) r3).fu (f4.less fun _ z => .inl z) (fun _ z => z) r4
        have l5 := l4.fu f4
        have it4 := it3.fu (f4.less fun b (z : B b) => .inl z) fun _ z => z
        have q10 := Run.pure (a := (some (c, es) : Option (γ × List D))) q9 a6.gd r4
        have q11 : Run W Wx σ.length B μ4 F4 H4 ((lcD (bd c) es acc >>= fun acc' => lc2D f tc src bd (ds.drop (i + 1)) acc' : M (List D)) g4) P := q10
        -- the inner loop
        let Pw : Nat → Hp → Prop := fun j H5 => ∃ μ5 F5 g5 acc5, At W B μ5 F5 H5 g5 ρ σ ∧ At W B μ5 F5 H5 g5 (up c (wipeR ρ vs)) σ' ∧ ItD W K B μ5 F5 H5 J ds ∧ ItD W K (fun _ => False) μ5 F5 H5 J1 es ∧ LcAt W B μ5 F5 H5 l acc5 ∧
          Run W Wx σ.length B μ5 F5 H5 ((lcD (bd c) (es.drop j) acc5 >>= fun acc' => lc2D f tc src bd (ds.drop (i + 1)) acc' : M (List D)) g5) P
        refine ⟨fun j m H5 => m = es.length - j ∧ j ≤ es.length ∧ Pw j H5, ⟨_, rfl, Nat.zero_le _, μ4, F4, g4, acc, b4, aB4, it4, it1, l5, q11⟩, ?_⟩
        rintro j m H5 ⟨rfl, hj, μ5, F5, g5, acc5, b5, aB5, it5, it6, l6, q12⟩
        by_cases hlt5 : j < es.length
        · have ed5 : es[j]? = some es[j] := List.getElem?_eq_getElem hlt5
          refine .inr ⟨it_go hK b5.rg.sub it6 hlt5, Pw (j + 1), fun H' z => ⟨_, by omega, rfl, hlt5, z⟩, fun x1 H6 y1 => ?_⟩
          obtain ⟨e6, rx1⟩ := it_yld hK b5.rg.sub it6 ed5 y1
          subst e6
          rw [drop_cons ed5, lcD_cons, bind_assoc] at q12
          have q13 := Run.bind (B' := fun b => B b ∨ b = l) q12 fun _ z => .inl z
          have q14 := Run.nox (n' := 0) q13
          have a7 := aB5.more l6
          have aw1 := a7.wipe vs1
          refine ht1.rd _ _ _ _ μ5 F5 _ g5 _ (wipeR (up c (wipeR ρ vs)) vs1) (wipe σ' vs1) x1 _ _ b5.rg.sub At.bears aw1 rx1 q14 fun c1 σ3 el1 hw1 a8 q15 => ⟨?_, ?_⟩
          · rw [hw1 vs1 hps1]
            refine List.ext_getElem? fun j => ?_
            by_cases hj : j ∈ vs1
            · by_cases h2 : j < σ'.length
              · rw [wipe_at hj (by rw [wipe_length]; exact h2), wipe_at hj h2]
              · rw [List.getElem?_eq_none (by rw [wipe_length, wipe_length]; omega), List.getElem?_eq_none (by rw [wipe_length]; omega)]
            · rw [wipe_out hj]
          · have q16 := Run.bind (B' := fun b => B b ∨ b = l) q15 fun _ z => z
            refine ⟨c, c1, _, μ5, F5, g5, a8, ?_⟩
            refine Run.mono (n := _) (Run.len q16) (fun _ z => z) fun k6 g6 μ6 F6 H6 f6 r6 q17 => ?_
            have a9 := a8.fu f6 (fun _ z => z) r6
            have b6 := b5.fu (f6.less fun _ z => .inl z) (fun _ z => z) r6
            have a10 := aB5.fu (f6.less fun _ z => .inl z) (fun _ z => z) r6
            have l7 := l6.fu f6
            have it7 := it5.fu (f6.less fun b (z : B b) => .inl z) fun _ z => z
            have it8 := it6.fu f6 fun _ z => z.elim
            cases k6 with
            | false =>
              have q18 := Run.pure (a := (none : Option D)) q17 a9.gd r6
              exact ⟨μ6, F6, g6, acc5, b6, a10, it7, it8, l7, q18⟩
            | true =>
              have q18 : Run W Wf 0 (fun b => B b ∨ b = l) μ6 F6 H6 ((te c c1 >>= fun y => (pure (some y) : M (Option D))) g6) _ := q17
              refine ⟨c, c1, _, μ6, F6, g6, a9, ?_⟩
              refine Run.mono (Run.len (Run.bind (B' := fun b => B b ∨ b = l) q18 fun _ z => z)) (fun _ z => z) fun yd g7 μ7 F7 H7 f7 r7 q19 v rv => ?_
              have b7 := b6.fu (f7.less fun _ z => .inl z) (fun _ z => z) r7
              have a11 := a10.fu (f7.less fun _ z => .inl z) (fun _ z => z) r7
              have l8 := l7.fu f7
              have it9 := it7.fu (f7.less fun b (z : B b) => .inl z) fun _ z => z
              have it10 := it8.fu f7 fun _ z => z.elim
              have q20 := Run.pure (a := (some yd : Option D)) q19 ((a9.fu f7 (fun _ z => z) r7).gd) r7
              obtain ⟨ws, e1, e2, fu5, rg5, l9⟩ := l8.put b7 rv
              by_cases c2 : acc5.length < sizeLine
              · have q21 : Run W Wx σ.length B μ7 F7 H7 (((if acc5.length < sizeLine then lcD (bd c) (es.drop (j + 1)) (acc5 ++ [yd]) else stuck) >>= fun acc' => lc2D f tc src bd (ds.drop (i + 1)) acc' : M (List D)) g7) P := q20
                rw [if_pos c2] at q21
                exact ⟨ws, e1, by rw [e2]; exact c2, μ7, F7, g7, acc5 ++ [yd], b7.fu fu5 (fun _ z => z) rg5, a11.fu fu5 (fun _ z => z) rg5, it9.fu fu5 fun _ z => z, it10.fu fu5 fun _ z => z.elim, l9, q21.later fu5 fun _ z => z⟩
              · have q21 : Run W Wx σ.length B μ7 F7 H7 (((if acc5.length < sizeLine then lcD (bd c) (es.drop (j + 1)) (acc5 ++ [yd]) else stuck) >>= fun acc' => lc2D f tc src bd (ds.drop (i + 1)) acc' : M (List D)) g7) P := q20
                rw [if_neg c2] at q21
                exact q21.elim
        · have e5 : j = es.length := by omega
          subst e5
          rw [List.drop_length] at q12
          exact .inl ⟨it_stop hK b5.rg.sub it6 (Nat.le_refl _), μ5, F5, g5, acc5, b5, it5, l6, q12⟩
  · have e : i = ds.length := by omega
    subst e
    rw [List.drop_length] at q2
    obtain ⟨ws, e1, rs⟩ := l3.ls
    exact .inl ⟨it_stop hK a3.rg.sub it2 (Nat.le_refl _), Run.pure q2 a3.gd a3.rg l ws hl0 e1 l3.out l3.no rs⟩
theorem pn_lc2 {γ γ1 : Type} {elt tg iter tg1 iter1 : Expr} {ifs ifs1 : List Expr} {scope : Scope} {own : List (Str × Nat)} (vs1 : List Nat) {pos : Pos} {mi : M (List D)} {t : TG} {f : {α : Type} → (γ → M α) → D → M α} {up : γ → Ro → Ro} {ps : List Nat}
    {t1 : TG} {f1 : {α : Type} → (γ1 → M α) → D → M α} {up1 : γ1 → Ro → Ro} {ps1 : List Nat} {tc : γ → M Bool} {src : γ → M (List D)} {tc1 : γ → γ1 → M Bool} {te : γ → γ1 → M D} (hK : W.K = X.K) (hc : X.calm = true) (hN : X.N.Nodup) (hi : PDj X W Wx tg iter ρ mi)
    (ok : BlkOk X.N X.env.scope scope own) (hg : ∀ (s : Shared) (H : Hp) (C : Addr) (cl : List (Str × Addr)) (fp : List Addr), TgD (X.blk s H scope (compEnvC scope cl C X.env) fp) W Wf tg t f up ps)
    (ht : ∀ (s : Shared) (H : Hp) (C : Addr) (cl : List (Str × Addr)) (fp : List Addr) (c : γ), PDts (X.blk s H scope (compEnvC scope cl C X.env) fp) W Wf ifs (up c (wipeR ρ (own.map (·.2)))) (tc c))
    (hi1 : ∀ (s : Shared) (H : Hp) (C : Addr) (cl : List (Str × Addr)) (fp : List Addr) (c : γ), PDi (X.blk s H scope (compEnvC scope cl C X.env) fp) W Wf tg1 iter1 (up c (wipeR ρ (own.map (·.2)))) (src c))
    (hg1 : ∀ (s : Shared) (H : Hp) (C : Addr) (cl : List (Str × Addr)) (fp : List Addr), TgD (X.blk s H scope (compEnvC scope cl C X.env) fp) W Wf tg1 t1 f1 up1 ps1)
    (ht1 : ∀ (s : Shared) (H : Hp) (C : Addr) (cl : List (Str × Addr)) (fp : List Addr) (c : γ) (c1 : γ1), PDts (X.blk s H scope (compEnvC scope cl C X.env) fp) W Wf ifs1 (up1 c1 (wipeR (up c (wipeR ρ (own.map (·.2)))) vs1)) (tc1 c c1))
    (he : ∀ (s : Shared) (H : Hp) (C : Addr) (cl : List (Str × Addr)) (fp : List Addr) (c : γ) (c1 : γ1), PDe (X.blk s H scope (compEnvC scope cl C X.env) fp) W Wf elt (up1 c1 (wipeR (up c (wipeR ρ (own.map (·.2)))) vs1)) (te c c1))
    (hps : ∀ i ∈ ps, i ∈ own.map (·.2) := by decide) (hps1 : ∀ i ∈ ps1, i ∈ vs1 := by decide) (hv : ∀ i ∈ vs1, i ∈ own.map (·.2) := by decide)
    (hs : ∀ x, foldedSetIterable iter X.env x = pure x := by intro _; rfl) (hs1 : ∀ env x, foldedSetIterable iter1 env x = pure x := by intro _ _; rfl) :
    PDn X W Wx (.ListComp elt [⟨tg, iter, ifs, 0⟩, ⟨tg1, iter1, ifs1, 0⟩] scope pos) ρ (mi >>= fun ds => lc2D f tc src (fun c d => f1 (lcB (tc1 c) (te c)) d) ds []) :=
  ⟨PEw (pe_lc2 (tt := fun σ H Q => ∃ c, tT W Wf (up c (wipeR ρ (own.map (·.2)))) (tc c) σ H Q) (wi1 := fun σ H R => ∃ c, tI W Wf X.K (up c (wipeR ρ (own.map (·.2)))) (src c) σ H R) (tt1 := fun σ H Q => ∃ c c1, tT W Wf (up1 c1 (wipeR (up c (wipeR ρ (own.map (·.2)))) vs1)) (tc1 c c1) σ H Q)
    (te := fun σ H Q => ∃ c c1, tE W Wf (up1 c1 (wipeR (up c (wipeR ρ (own.map (·.2)))) vs1)) (te c c1) σ H Q) hc hN hi.p ok hv (fun s H C cl fp => (hg s H C cl fp).pg)
    (fun s H C cl fp => ⟨fun pins s1 σ H1 Q I ⟨c, q⟩ => (ht s H C cl fp c).p.run pins s1 σ H1 Q I q⟩) (fun s H C cl fp => ⟨fun pins s1 σ H1 R I ⟨c, q⟩ => (hi1 s H C cl fp c).p.run pins s1 σ H1 R I q⟩) (fun s H C cl fp => (hg1 s H C cl fp).pg)
    (fun s H C cl fp => ⟨fun pins s1 σ H1 Q I ⟨c, c1, q⟩ => (ht1 s H C cl fp c c1).p.run pins s1 σ H1 Q I q⟩) (fun s H C cl fp => ⟨fun pins s1 σ H1 Q I ⟨c, c1, q⟩ => (he s H C cl fp c c1).p.run pins s1 σ H1 Q I q⟩) hs hs1)
    fun σ H Q q => lc2_read (hg X.s_0 X.H_0 0 [] []) hps (hg1 X.s_0 X.H_0 0 [] []) hps1 hK q⟩
theorem ds_setLc2 {γ γ1 : Type} (i : Nat) {y : Str} {py : Pos} {elt tg iter tg1 iter1 : Expr} {ifs ifs1 : List Expr} {scope : Scope} {own : List (Str × Nat)} (vs1 : List Nat) {pos spos : Pos} {mi : M (List D)} {t : TG} {f : {α : Type} → (γ → M α) → D → M α} {up : γ → Ro → Ro} {ps : List Nat}
    {t1 : TG} {f1 : {α : Type} → (γ1 → M α) → D → M α} {up1 : γ1 → Ro → Ro} {ps1 : List Nat} {tc : γ → M Bool} {src : γ → M (List D)} {tc1 : γ → γ1 → M Bool} {te : γ → γ1 → M D} {k : List D → M (Fl S)} (hK : W.K = X.K) (hc : X.calm = true) (hN : X.N.Nodup) (hi : PDj X W Wx tg iter ρ mi)
    (ok : BlkOk X.N X.env.scope scope own) (hg : ∀ (s : Shared) (H : Hp) (C : Addr) (cl : List (Str × Addr)) (fp : List Addr), TgD (X.blk s H scope (compEnvC scope cl C X.env) fp) W Wf tg t f up ps)
    (ht : ∀ (s : Shared) (H : Hp) (C : Addr) (cl : List (Str × Addr)) (fp : List Addr) (c : γ), PDts (X.blk s H scope (compEnvC scope cl C X.env) fp) W Wf ifs (up c (wipeR ρ (own.map (·.2)))) (tc c))
    (hi1 : ∀ (s : Shared) (H : Hp) (C : Addr) (cl : List (Str × Addr)) (fp : List Addr) (c : γ), PDi (X.blk s H scope (compEnvC scope cl C X.env) fp) W Wf tg1 iter1 (up c (wipeR ρ (own.map (·.2)))) (src c))
    (hg1 : ∀ (s : Shared) (H : Hp) (C : Addr) (cl : List (Str × Addr)) (fp : List Addr), TgD (X.blk s H scope (compEnvC scope cl C X.env) fp) W Wf tg1 t1 f1 up1 ps1)
    (ht1 : ∀ (s : Shared) (H : Hp) (C : Addr) (cl : List (Str × Addr)) (fp : List Addr) (c : γ) (c1 : γ1), PDts (X.blk s H scope (compEnvC scope cl C X.env) fp) W Wf ifs1 (up1 c1 (wipeR (up c (wipeR ρ (own.map (·.2)))) vs1)) (tc1 c c1))
    (he : ∀ (s : Shared) (H : Hp) (C : Addr) (cl : List (Str × Addr)) (fp : List Addr) (c : γ) (c1 : γ1), PDe (X.blk s H scope (compEnvC scope cl C X.env) fp) W Wf elt (up1 c1 (wipeR (up c (wipeR ρ (own.map (·.2)))) vs1)) (te c c1)) (hr : ∀ ds, PDs X W Wx rest (ρ.set i (.ol ds)) mk (k ds))
    (hsw : swapsWith (.ListComp elt [⟨tg, iter, ifs, 0⟩, ⟨tg1, iter1, ifs1, 0⟩] scope pos) (some (.Name y py)) spos.line X.env = pure true) (hps : ∀ i ∈ ps, i ∈ own.map (·.2) := by decide) (hps1 : ∀ i ∈ ps1, i ∈ vs1 := by decide) (hv : ∀ i ∈ vs1, i ∈ own.map (·.2) := by decide) (hy : X.N[i]? = some y := by rfl) (hyl : X.env.scope.names.lookup y = some .local := by rfl)
    (hs : ∀ x, foldedSetIterable iter X.env x = pure x := by intro _; rfl) (hs1 : ∀ env x, foldedSetIterable iter1 env x = pure x := by intro _ _; rfl) :
    PDs X W Wx (.Assign [.Name y py] (.ListComp elt [⟨tg, iter, ifs, 0⟩, ⟨tg1, iter1, ifs1, 0⟩] scope pos) spos :: rest) ρ mk ((mi >>= fun ds => lc2D f tc src (fun c d => f1 (lcB (tc1 c) (te c)) d) ds []) >>= k) := by
  refine ⟨PSsw (pss_cons (ps_setLc2 (tt := fun σ H Q => ∃ c, tT W Wf (up c (wipeR ρ (own.map (·.2)))) (tc c) σ H Q) (wi1 := fun σ H R => ∃ c, tI W Wf X.K (up c (wipeR ρ (own.map (·.2)))) (src c) σ H R) (tt1 := fun σ H Q => ∃ c c1, tT W Wf (up1 c1 (wipeR (up c (wipeR ρ (own.map (·.2)))) vs1)) (tc1 c c1) σ H Q)
    (te := fun σ H Q => ∃ c c1, tE W Wf (up1 c1 (wipeR (up c (wipeR ρ (own.map (·.2)))) vs1)) (te c c1) σ H Q) hc hN hy hyl hsw hi.p ok hv (fun s H C cl fp => (hg s H C cl fp).pg)
    (fun s H C cl fp => ⟨fun pins s1 σ H1 Q I ⟨c, q⟩ => (ht s H C cl fp c).p.run pins s1 σ H1 Q I q⟩) (fun s H C cl fp => ⟨fun pins s1 σ H1 R I ⟨c, q⟩ => (hi1 s H C cl fp c).p.run pins s1 σ H1 R I q⟩) (fun s H C cl fp => (hg1 s H C cl fp).pg)
    (fun s H C cl fp => ⟨fun pins s1 σ H1 Q I ⟨c, c1, q⟩ => (ht1 s H C cl fp c c1).p.run pins s1 σ H1 Q I q⟩) (fun s H C cl fp => ⟨fun pins s1 σ H1 Q I ⟨c, c1, q⟩ => (he s H C cl fp c c1).p.run pins s1 σ H1 Q I q⟩) hs hs1)
    (u := fun D σ H => ∃ ds, tS W Wx (ρ.set i (.ol ds)) mk (k ds) D σ H) ⟨fun pins s σ H D I ⟨c, q⟩ => (hr c).p.run pins s σ H D I q⟩) ?_⟩
  intro D σ H ⟨B, μ, F, g, a, q⟩
  refine lc2_read (Q := fun x H1 => gName i x σ H1 fun σ H => ∃ ds, tS W Wx (ρ.set i (.ol ds)) mk (k ds) D σ H) (hg X.s_0 X.H_0 0 [] []) hps (hg1 X.s_0 X.H_0 0 [] []) hps1 hK ⟨_, μ, F, g, a.at_, (Run.bind q fun _ z => .inl z).mono (fun _ z => z) fun ds g1 μ1 F1 H1 fa r1 q1 l vs e0 e1 e2 e3 rs => ?_⟩
  exact ⟨ds, B, μ1, F1, g1, a.setX (a.fu fa (fun _ z => z) r1) ⟨l, vs, rfl, e0, e1, e2, e3, rs⟩, by rw [List.length_set]; exact q1⟩
end
end PD
namespace PD
open PySem PySem.Spec L2
open PyProof.Rows hiding St
structure FnB (P : Program) (w : World) (K : PySem.W.Frag) (mg : Str → Option Value) (base : Heap) (W : Wd) (k : Nat) (f : Addr) (m : List D → M D) (j : Nat) (ks : List Str) (g : List D → List D → List D) : Prop where
  ex : ∃ (fd : FuncData) (ps : List Str) (n : Nat) (gu : List Value → List Value → List Value) (gV : List V → List V → List V), FnG P w K mg base k f fd ps (spD W n m) ∧
    (∀ (s : Shared) (us ws : List Value), K.In s.heap → us.length = j → ws.length = ks.length → BindsTo s fd ⟨us, ks.zip ws⟩ (ps.zip (gu us ws))) ∧
    (∀ (vs : List V) (us : List Value) (zs : List V) (ws : List Value), Vals vs us → Vals zs ws → Vals (gV vs zs) (gu us ws)) ∧
    (∀ μ F ds es vs zs, Reps W μ F ds vs → Reps W μ F es zs → Reps W μ F (g ds es) (gV vs zs)) ∧
    ∀ vs zs : List V, vs.length = j → zs.length = ks.length → (gV vs zs).length = n
  kp : PySem.W.keepIn K (.ref f) = true
theorem FnB.mono {P : Program} {w : World} {K : PySem.W.Frag} {mg : Str → Option Value} {base : Heap} {W : Wd} {i k : Nat} {f : Addr} {m : List D → M D} {j : Nat} {ks : List Str} {g : List D → List D → List D} (F : FnB P w K mg base W i f m j ks g) (h : i ≤ k) : FnB P w K mg base W k f m j ks g := by
  obtain ⟨fd, ps, n, gu, gV, F1, r⟩ := F.ex
  exact ⟨⟨fd, ps, n, gu, gV, F1.mono h, r⟩, F.kp⟩
def cB (j : Nat) (m : List D → M D) (g : List D → List D → List D) : List D → M D := fun ds => if ds.length = j then m (g ds []) else stuck
def cK (j i : Nat) (m : List D → M D) (g : List D → List D → List D) : List D → List D → M D := fun ds es => if ds.length = j ∧ es.length = i then m (g ds es) else stuck
section
variable {X : Cx} {W : Wd} {Wx : WX} {ρ : Ro} {k j : Nat} {f : Addr} {m : List D → M D} {g : List D → List D → List D} {x : Str} {p pos apos : Pos} {e o : Expr} {es : List Expr} {c : Ar}
theorem pd_call (F : FnB X.prog X.w X.K X.mg X.base W k f m j [] g) (b : Bd X k) (tk : Takes X Wx) (hm : X.mg x = some (.ref f)) (ha : PDa X W Wx (e :: es) ρ c) (hg : Gl X x := by rfl) (hdb : (x == ("__debug__" : Str)) = false := by decide)
    (he : starEach (e :: es) X.env = (false, eval e X.env) :: starEach es X.env := by rfl) (hpl : (backTo pos (starEach es X.env)).any (·.1) = false := by rfl) : PDe X W Wx (.Call (.Name x p) (e :: es) [] pos) ρ (c D (cB j m g)) := by
  obtain ⟨fd, ps, n, gu, gV, F1, hb, hv, hr, hl⟩ := F.ex
  refine ⟨⟨fun pins s σ H Q I q => ?_⟩⟩
  refine wpAny_Call_Name_kw (ld_glob I hg hm ?_ hdb)
  refine PySem.W.callWith_K (h₀ := X.base) I.ok.mod.kin F.kp (thn (ha.p.run pos pins s σ H (fun vs H1 => vs.length = j ∧ spD W n m (gV vs []) H1 Q (WE Wx σ)) I (tK_of q ?_)) fun us s1 ⟨vs, H1, I1, r, hj, q1⟩ => ⟨I1.kIn, ?_⟩) he hpl
  · intro ds vs B μ F H g' a rs q1
    have q2 : Run W Wx σ.length B μ F H ((if ds.length = j then m (g ds []) else stuck : M D) g') (fun d _ μ' F' H' => ∀ v, Rep W μ' F' d v → Q v H') := q1
    by_cases h : ds.length = j
    · rw [if_pos h] at q2
      have hv : vs.length = j := by rw [← rs.length]; exact h
      exact ⟨hv, spD_of (m := m) a (hr μ F ds [] vs [] rs .nil) (hl vs [] hv rfl) q2⟩
    · rw [if_neg h] at q2
      exact q2.elim
  · exact runG F1 b tk I1 (ks := []) (ws := []) (all := gu us []) (hb s1 us [] I1.kIn (by rw [← r.length]; exact hj) rfl) (hv _ _ _ _ r .nil) q1
theorem pd_call0 (F : FnB X.prog X.w X.K X.mg X.base W k f m 0 [] g) (b : Bd X k) (tk : Takes X Wx) (hm : X.mg x = some (.ref f)) (hg : Gl X x := by rfl) (hdb : (x == ("__debug__" : Str)) = false := by decide) :
    PDe X W Wx (.Call (.Name x p) [] [] pos) ρ (m (g [] [])) := by
  obtain ⟨fd, ps, n, gu, gV, F1, hb, hv, hr, hl⟩ := F.ex
  refine ⟨⟨fun pins s σ H Q I q => ?_⟩⟩
  refine wpAny_Call_Name_kw (ld_glob I hg hm ?_ hdb)
  obtain ⟨B, μ, F', g', a, q⟩ := q
  exact PySem.W.callWith_K0 I.kIn F.kp (runG F1 b tk I (us := []) (ks := []) (ws := []) (all := gu [] []) (hb s [] [] I.kIn rfl rfl) (hv _ _ _ _ .nil .nil) (spD_of (m := m) a (hr μ F' [] [] [] [] .nil .nil) (hl [] [] rfl rfl) q))
def isO (c : Str) (f : D → M D) : D → M D
  | .obj c' x => if c' = c then f (.obj c' x) else stuck
  | _ => stuck
theorem isO_of {c : Str} {f : D → M D} {d : D} {v : V} {μ : List Addr} {F : Hp} {g : GS} {n : Nat} {B : Addr → Prop} {H : Hp} {Q : D → GS → List Addr → Hp → Hp → Prop} (r : Rep W μ F d v) (q : Run W Wx n B μ F H (isO c f d g) Q) :
    ∃ a dx w y, v = .ref a ∧ d = .obj c y ∧ F a = some (.ins (W.ca c) dx [("both", w)]) ∧ Rep W μ F y w ∧ Run W Wx n B μ F H (f d g) Q := by
  cases r with
  | @obj a dx c' w y h r =>
    have q2 : Run W Wx n B μ F H ((if c' = c then f (.obj c' y) else stuck : M D) g) Q := q
    by_cases hc : c' = c
    · rw [if_pos hc] at q2
      subst hc
      exact ⟨a, dx, w, y, rfl, rfl, h, r, q2⟩
    · rw [if_neg hc] at q2
      exact q2.elim
  | _ => exact q.elim
theorem look_ne {m : Str} {w : V} (h : (m == ("both" : Str)) = false) : ([(("both" : Str), w)] : List (Str × V)).lookup m = none := by
  simp [List.lookup, h]
theorem pd_meth {c0 mt : Str} {mo : M D} {pl : Sem Bool} (F : FnB X.prog X.w X.K X.mg X.base W k f m (j + 1) [] g) (b : Bd X k) (tk : Takes X Wx) (cl : Cls X.K (W.ca c0)) (hm : Meth X.K (W.ca c0) mt f) (ho : PDe X W Wx o ρ mo) (ha : PDa X W Wx (e :: es) ρ c)
    (hne : (mt == ("both" : Str)) = false := by decide) (he : starEach (e :: es) X.env = (false, eval e X.env) :: starEach es X.env := by rfl) (hpl : (backTo pos (starEach es X.env)).any (·.1) = false := by rfl)
    (ht : eval (.Call (.Attribute o mt apos) (e :: es) [] pos) X.env = (do
      let ov ← eval o X.env
      standAt apos.atName
      let (f, first) ← holding [ov] (getMethod ov mt pl)
      callWith pos f first (backTo pos (starEach (e :: es) X.env)) (backToKw pos (keywordEach [] X.env))) := by rfl) :
    PDe X W Wx (.Call (.Attribute o mt apos) (e :: es) [] pos) ρ (mo >>= isO c0 fun d => c D fun ds => cB (j + 1) m g (d :: ds)) := by
  obtain ⟨fd, ps, n, gu, gV, F1, hb, hv, hr, hl⟩ := F.ex
  refine ⟨⟨fun pins s σ H Q I q => ?_⟩⟩
  obtain ⟨B, μ, F0, g0, a0, q⟩ := q
  refine PySem.W.methodCall_KW (pl := pl) (thn (ho.p.run pins s σ H (fun x H1 => ∃ B μ F g' d, At W B μ F H1 g' ρ σ ∧ Rep W μ F d x ∧ Run W Wx σ.length B μ F H1 (isO c0 (fun d => c D fun ds => cB (j + 1) m g (d :: ds)) d g') (fun d _ μ' F' H' => ∀ v, Rep W μ' F' d v → Q v H')) I
    ⟨B, μ, F0, g0, a0, (Run.bind q fun _ z => z).mono (fun _ z => z) fun d g1 μ1 F1 H1 f1 r1 q1 v r => ⟨B, μ1, F1, g1, d, a0.fu f1 (fun _ z => z) r1, r, q1⟩⟩) fun u s1 ⟨x, H1, I1, rx, B1, μ1, F1', g1, d, a1, r1, q1⟩ => ?_) ht
  obtain ⟨a, dx, w, y, ex, ed, ea, ry, q2⟩ := isO_of r1 q1
  subst ex
  obtain rfl : u = Value.ref a := rx
  refine getmeth_ok I1 (a1.rg.sub _ _ ea) cl hm (look_ne hne) ?_
  refine PySem.W.callWith_K (first := [.ref a]) (h₀ := X.base) I.ok.mod.kin hm.kp (thn (ha.p.run pos pins s1 σ H1 (fun vs H2 => vs.length = j ∧ spD W n m (gV (.ref a :: vs) []) H2 Q (WE Wx σ)) I1 ?_) fun us s2 ⟨vs, H2, I2, r, hj, q3⟩ => ⟨I2.kIn, ?_⟩) he hpl
  · refine ⟨D, _, B1, μ1, F1', g1, _, a1, q2, fun ds vs μ2 F2 H2 g2 f2 a2 rs q3 => ?_⟩
    have q4 : Run W Wx σ.length B1 μ2 F2 H2 ((if (d :: ds).length = j + 1 then m (g (d :: ds) []) else stuck : M D) g2) (fun d _ μ' F' H' => ∀ v, Rep W μ' F' d v → Q v H') := q3
    by_cases h : (d :: ds).length = j + 1
    · rw [if_pos h] at q4
      have h2 : vs.length = j := by rw [← rs.length]; exact Nat.succ.inj h
      exact ⟨h2, spD_of (m := m) a2 (hr μ2 F2 (d :: ds) [] (.ref a :: vs) [] (.cons (r1.mono f2.grow f2.fro) rs) .nil) (hl (.ref a :: vs) [] (congrArg Nat.succ h2) rfl) q4⟩
    · rw [if_neg h] at q4
      exact q4.elim
  · exact runG F1 b tk I2 (us := .ref a :: us) (ks := []) (ws := []) (all := gu (.ref a :: us) []) (hb s2 (.ref a :: us) [] I2.kIn (by rw [← hj, r.length]; rfl) rfl) (hv (.ref a :: vs) _ _ _ (.cons rfl r) .nil) q3
theorem pd_meth0 {c0 mt : Str} {mo : M D} {pl : Sem Bool} (F : FnB X.prog X.w X.K X.mg X.base W k f m 1 [] g) (b : Bd X k) (tk : Takes X Wx) (cl : Cls X.K (W.ca c0)) (hm : Meth X.K (W.ca c0) mt f) (ho : PDe X W Wx o ρ mo)
    (hne : (mt == ("both" : Str)) = false := by decide)
    (ht : eval (.Call (.Attribute o mt apos) [] [] pos) X.env = (do
      let ov ← eval o X.env
      standAt apos.atName
      let (f, first) ← holding [ov] (getMethod ov mt pl)
      callWith pos f first (backTo pos (starEach [] X.env)) (backToKw pos (keywordEach [] X.env))) := by rfl) :
    PDe X W Wx (.Call (.Attribute o mt apos) [] [] pos) ρ (mo >>= isO c0 fun d => m (g [d] [])) := by
  obtain ⟨fd, ps, n, gu, gV, F1, hb, hv, hr, hl⟩ := F.ex
  refine ⟨⟨fun pins s σ H Q I q => ?_⟩⟩
  obtain ⟨B, μ, F0, g0, a0, q⟩ := q
  refine PySem.W.methodCall_KW (pl := pl) (thn (ho.p.run pins s σ H (fun x H1 => ∃ B μ F g' d, At W B μ F H1 g' ρ σ ∧ Rep W μ F d x ∧ Run W Wx σ.length B μ F H1 (isO c0 (fun d => m (g [d] [])) d g') (fun d _ μ' F' H' => ∀ v, Rep W μ' F' d v → Q v H')) I
    ⟨B, μ, F0, g0, a0, (Run.bind q fun _ z => z).mono (fun _ z => z) fun d g1 μ1 F1 H1 f1 r1 q1 v r => ⟨B, μ1, F1, g1, d, a0.fu f1 (fun _ z => z) r1, r, q1⟩⟩) fun u s1 ⟨x, H1, I1, rx, B1, μ1, F1', g1, d, a1, r1, q1⟩ => ?_) ht
  obtain ⟨a, dx, w, y, ex, ed, ea, ry, q2⟩ := isO_of r1 q1
  subst ex
  obtain rfl : u = Value.ref a := rx
  refine getmeth_ok I1 (a1.rg.sub _ _ ea) cl hm (look_ne hne) ?_
  exact PySem.W.callWith_K0 (first := [.ref a]) I1.kIn hm.kp (runG F1 b tk I1 (us := [.ref a]) (ks := []) (ws := []) (all := gu [.ref a] []) (hb s1 [.ref a] [] I1.kIn rfl rfl) (hv [.ref a] _ _ _ (.cons rfl .nil) .nil)
    (spD_of (m := m) a1 (hr μ1 F1' [d] [] [.ref a] [] (.one r1) .nil) (hl [.ref a] [] rfl rfl) q2))
def oBoth : D → M D
  | .obj _ x => pure x
  | _ => stuck
theorem pd_both {c0 : Str} {mo : M D} (cl : Cls X.K (W.ca c0)) (hn : NoAttr X.K (W.ca c0) "both") (he : PDe X W Wx e ρ mo) (hb : attributeBase e ("both" : Str) X.env (eval e X.env) = eval e X.env := by rfl) : PDe X W Wx (.Attribute e "both" pos) ρ (mo >>= isO c0 oBoth) :=
  ⟨PEw (pe_fld he.p hb) fun σ H Q ⟨B, μ, F, g, a, q⟩ => ⟨B, μ, F, g, a, (Run.bind q fun _ z => z).mono (fun _ z => z) fun d g1 μ1 F1 H1 f1 r1 q1 v p => by
    have a1 := a.fu f1 (fun _ z => z) r1
    obtain ⟨x, dx, w, y, ex, ed, ea, ry, q2⟩ := isO_of p q1
    subst ed
    exact ⟨x, _, dx, _, w, ex, r1.sub _ _ ea, cl, hn, rfl, Run.pure (a := y) q2 a1.gd a1.rg w ry⟩⟩⟩
def calm {α : Type} (m : M α) : M α := fun g => match m g with
  | .ok a g' => .ok a g'
  | .ex _ _ => .st
  | .st => .st
theorem Run.calm {α : Type} {m : M α} {g : GS} {n n' : Nat} {B : Addr → Prop} {μ : List Addr} {F H : Hp} {Wx' : WX} {Q : α → GS → List Addr → Hp → Hp → Prop} (q : Run W Wx n B μ F H (calm m g) Q) : Run W Wx' n' B μ F H (m g) Q := by
  unfold PD.calm at q
  cases e : m g with
  | ok a g' => rw [e] at q; exact q
  | ex _ _ => rw [e] at q; exact q.elim
  | st => rw [e] at q; exact q
theorem Bd.in1 (b : Bd X (k + 1)) : X.A.in1.guards = some [] := b.gd
theorem pd_prop {c0 q : Str} {pa : Addr} {mo : M D} (F : FnB X.prog X.w X.K X.mg X.base W k f m 1 [] g) (b : Bd X (k + 1)) (cl : Cls X.K (W.ca c0)) (hp : PropOf X.K (W.ca c0) q pa f) (he : PDe X W Wx e ρ mo) (hab : attributeBase e q X.env (eval e X.env) = eval e X.env := by rfl) :
    PDe X W Wx (.Attribute e q pos) ρ (mo >>= isO c0 fun d => calm (m (g [d] []))) := by
  obtain ⟨fd, ps, n, gu, gV, F1, hb, hv, hr, hl⟩ := F.ex
  refine ⟨⟨fun pins s σ H Q I qq => ?_⟩⟩
  obtain ⟨B, μ, F0, g0, a0, qq⟩ := qq
  refine attr_of hab (thn (he.p.run pins s σ H (fun x H1 => ∃ B μ F g' d, At W B μ F H1 g' ρ σ ∧ Rep W μ F d x ∧ Run W Wx σ.length B μ F H1 (isO c0 (fun d => calm (m (g [d] []))) d g') (fun d _ μ' F' H' => ∀ v, Rep W μ' F' d v → Q v H')) I
    ⟨B, μ, F0, g0, a0, (Run.bind qq fun _ z => z).mono (fun _ z => z) fun d g1 μ1 F1 H1 f1 r1 q1 v r => ⟨B, μ1, F1, g1, d, a0.fu f1 (fun _ z => z) r1, r, q1⟩⟩) fun u s1 ⟨x, H1, I1, rx, B1, μ1, F1', g1, d, a1, r1, q1⟩ => ?_)
  obtain ⟨a, dx, w, y, ex, ed, ea, ry, q2⟩ := isO_of r1 q1
  subst ex
  obtain rfl : u = Value.ref a := rx
  have eH := a1.rg.sub _ _ ea
  obtain ⟨mA, O, _, _, _, _⟩ := ins_get I1.hok eH
  obtain ⟨od, J, _⟩ := O.look
  obtain ⟨rest, hrec⟩ := hp.rec_
  have I2 := I1.tok (s1.toks + 1)
  have hc : (PySem.W.clsIn X.K (W.ca c0)).isSome = true := by
    obtain ⟨cd, hc, _⟩ := PySem.W.any_some cl.hd
    rw [hc]
    rfl
  have q3 : Run W (fun _ _ _ _ => False) σ.length B1 μ1 F1' H1 (m (g [d] []) g1) (fun d _ μ' F' H' => ∀ v, Rep W μ' F' d v → Q v H') := Run.calm q2
  have sp : spD W n m (gV [.ref a] []) H1 Q (fun _ _ _ => False) := spD_of (Wx := fun _ _ _ _ => False) (m := m) a1 (hr μ1 F1' [d] [] [.ref a] [] (.one r1) .nil) (hl [.ref a] [] rfl rfl) q3
  refine PySem.W.get_bind I1.kIn J (PySem.W.plainGet_of (cl.get q)).1 (PySem.W.findObj_data hc hp.at_ hp.get hp.tak) (PySem.W.plainGet_of (cl.get q)).2 (wpAny_call (PySem.W.prop_get (s := { s1 with toks := s1.toks + 1 }) I1.kIn hrec ?_))
  refine codeAny_mono (F1.run X.A.in1 X.stack { s1 with toks := s1.toks + 1 } H1 ⟨[.ref a], []⟩ (gu [.ref a] []) (gV [.ref a] []) Q (fun _ _ _ => False) b.in1 b.rm.in1 I2.env0.in1 (hb _ [.ref a] [] I2.kIn rfl rfl) (hv [.ref a] _ _ _ (.cons rfl .nil) .nil) sp) fun r s' hq => ?_
  cases r with
  | error er =>
    obtain ⟨_, _, _, _, _, _, _, _, _, _, _, _, z⟩ := hq
    exact z.elim
  | ok fl =>
    cases fl with
    | ret u =>
      obtain ⟨v, H', I3, rv, q3⟩ := I2.after hq
      show wpAny _ _ (handedOut u) _ _ _
      rw [PySem.W.handedOut_of (handed_of rv)]
      exact wpAny_pure ⟨v, H', I3, rv, q3⟩
    | next => exact False.elim hq
    | brk => exact False.elim hq
    | cont => exact False.elim hq
end
end PD
namespace PD
open PySem PySem.Spec L2
open PyProof.Rows hiding St
theorem Fu.seal {B : Addr → Prop} {μ : List Addr} {F H : Hp} {p : Addr} {o : HO} (gd : Guard B F H) (fp : F p = none) (nB : ¬ B p) : Fu B μ F H μ (upd F p o) (upd H p o) where
  grow := .refl
  new := fun _ _ _ h => .inl h
  fro := fun b u e => by
    rw [upd_ne (ne_of_none e fp)]
    exact e
  keep := fun a u hb e _ => by
    rw [upd_ne (show a ≠ p from fun q => nB (by rw [← q]; exact hb))]
    exact e
  out := fun a z => by
    rw [upd_ne (show a ≠ p from fun q => nB (by rw [← q]; exact z))]
    exact (gd a z).1
  stay := fun a z => by
    by_cases hb : a = p
    · subst hb
      rw [upd_same]
      simp
    · rw [upd_ne hb]
      exact z
theorem RG.seal {W : Wd} {g : GS} {μ : List Addr} {F H : Hp} {p : Addr} {o : HO} (rg : RG W g μ F H) (fp : F p = none) (nm : ∀ n : Nat, μ[n]? ≠ some p) : RG W g μ (upd F p o) (upd H p o) where
  sub := fun b u e => by
    by_cases hb : b = p
    · subst hb
      rw [upd_same] at e ⊢
      exact e
    · rw [upd_ne hb] at e ⊢
      exact rg.sub b u e
  len := rg.len
  nd := rg.nd
  out := fun n a e => by
    rw [upd_ne (fun q => nm n (by rw [e, q]))]
    exact rg.out n a e
  at_ := fun n a u e e2 => (rg.at_ n a u e e2).fu .refl (fun b z q => by
    rw [upd_ne (ne_of_none q fp)]
    exact q) fun z q => by
    rw [upd_ne (fun y => nm n (by rw [e, y]))]
    exact q
def spI (W : Wd) (C : Addr) (n : Nat) (m : List D → M D) : Sp := fun vs H Q E => ∃ (x dx : Addr) (us : List V), vs = .ref x :: us ∧ us.length = n ∧ H x = some (.ins C dx []) ∧ ∃ (B : Addr → Prop) (μ : List Addr) (F : Hp) (g : GS) (ds : List D), Guard B F H ∧ B x ∧ (∀ i : Nat, μ[i]? ≠ some x) ∧ RG W g μ F H ∧ Reps W μ F ds us ∧
  Run W (fun cls d _ H' => E cls d H') 0 B μ F H (m ds g) fun d _ μ' F' H' => ∀ v, Rep W μ' F' d v → Q .non (upd H' x (.ins C dx [(("both" : Str), v)]))
def tI0 (W : Wd) (Wx : WX) (C : Addr) (ρ : Ro) (m : M D) : TS := fun D σ H => ∃ (B : Addr → Prop) (μ : List Addr) (F : Hp) (g : GS) (x dx : Addr), AtS W B μ F H g ρ σ ∧ σ[0]? = some (some (.ref x)) ∧ H x = some (.ins C dx []) ∧ B x ∧ (∀ i : Nat, μ[i]? ≠ some x) ∧
  Run W Wx σ.length B μ F H (m g) fun d _ μ' F' H' => ∀ v, Rep W μ' F' d v → D.nx σ (upd H' x (.ins C dx [(("both" : Str), v)]))
structure PDI (X : Cx) (W : Wd) (Wx : WX) (C : Addr) (sts : List Stmt) (ρ : Ro) (m : M D) : Prop where
  p : PSs X sts (tI0 W Wx C ρ m)
theorem Fu.same_ins {B : Addr → Prop} {μ μ' : List Addr} {F F' H H' : Hp} (f : Fu B μ F H μ' F' H') {x : Addr} {o : HO} (hx : H x = some o) (b : B x) (nm : ∀ i : Nat, μ[i]? ≠ some x) : H' x = some o ∧ ∀ i : Nat, μ'[i]? ≠ some x :=
  ⟨f.keep _ _ b hx nm, fun i e => (f.new i x b e).elim (nm i) fun z => by rw [hx] at z; cases z⟩
section
variable {X : Cx} {W : Wd} {Wx : WX} {ρ : Ro} {C : Addr}
theorem di_expr {e : Expr} {m k : M D} {rest : List Stmt} {pos : Pos} (h : PDe X W Wx e ρ m) (hr : PDI X W Wx C rest ρ k) (hs : swapsWith e none pos.line X.env = pure false := by rfl) : PDI X W Wx C (.Expr e pos :: rest) ρ (m >>= fun _ => k) :=
  ⟨PSsw (pss_cons (ps_expr h.p hs) hr.p) fun D σ H ⟨B, μ, F, g, x, dx, a, e0, hx, bx, nx, q⟩ => ⟨_, μ, F, g, a.at_, (Run.bind q fun _ z => .inl z).mono (fun _ z => z) fun d g1 μ1 F1 H1 f1 r1 q1 v p => by
    obtain ⟨h1, h2⟩ := f1.same_ins hx (.inl bx) nx
    exact ⟨B, μ1, F1, g1, x, dx, a.fu f1 (fun _ z => z) r1, e0, h1, bx, h2, q1⟩⟩⟩
theorem di_last {e : Expr} {m : M D} {x : Str} {p1 p2 pos : Pos} (hN : X.N[0]? = some x) (cl : Cls X.K C) (hn : NoAttr X.K C "both") (h : PDe X W Wx e ρ m) (hv : Vis X.env.scope x := by first | exact Or.inl rfl | exact Or.inr (Or.inl rfl) | exact Or.inr (Or.inr rfl))
    (hd : (x == ("__debug__" : Str)) = false := by decide) (hcd : (x == ("__classdict__" : Str)) = false := by decide) (hs : swapsWith e (some (.Attribute (.Name x p1) ("both" : Str) p2)) pos.line X.env = pure false := by rfl) :
    PDI X W Wx C [.Assign [.Attribute (.Name x p1) "both" p2] e pos] ρ m :=
  ⟨PSsw (pss_one (ps_fld (pe_var hN hv hd hcd) h.p hs)) fun D σ H ⟨B, μ, F, g, x, dx, a, e0, hx, bx, nx, q⟩ => ⟨_, μ, F, g, a.at_, q.mono (fun _ z => .inl z) fun d g1 μ1 F1 H1 f1 r1 q1 v p => by
    obtain ⟨h1, h2⟩ := f1.same_ins hx (.inl bx) nx
    exact ⟨.ref x, e0, x, C, dx, [], rfl, h1, cl, hn, by decide, q1 v p⟩⟩⟩
structure FnI (P : Program) (w : World) (K : PySem.W.Frag) (mg : Str → Option Value) (base : Heap) (W : Wd) (k : Nat) (f : Addr) (C : Addr) (m : List D → M D) (j : Nat) (g : List D → List D → List D) : Prop where
  ex : ∃ (fd : FuncData) (ps : List Str) (n : Nat) (gu : List Value → List Value) (gV : List V → List V), FnG P w K mg base k f fd ps (spI W C n m) ∧
    (∀ (s : Shared) (u : Value) (us : List Value), K.In s.heap → us.length = j → BindsTo s fd ⟨u :: us, []⟩ (ps.zip (u :: gu us))) ∧
    (∀ (vs : List V) (us : List Value), Vals vs us → Vals (gV vs) (gu us)) ∧
    (∀ μ F ds vs, Reps W μ F ds vs → Reps W μ F (g ds []) (gV vs)) ∧
    ∀ vs : List V, vs.length = j → (gV vs).length = n
theorem make_guards {A : Around} {C : Addr} {us : List Value} {kw : List (Str × Value)} : (A.under (.builtin "type.__call__" ⟨.ref C :: us, kw⟩)).guards = A.guards := by
  first | rfl | simp [Around.under, Code.weight, Code.isCreation, Code.isGuard, Code.isCaller, Code.frames, Code.isFrame, guardIds]
def cI (c0 : Str) (j : Nat) (m : List D → M D) (g : List D → List D → List D) : List D → M D := fun ds => if ds.length = j then (m (g ds []) >>= fun d => pure (.obj c0 d)) else stuck
theorem run_mk {k j : Nat} {f : Addr} {m : List D → M D} {g : List D → List D → List D} {c0 : Str} {pins : List (Addr × Obj)} {σ : L2.St} {H : Hp} {s : Shared} {Q : VK} {us : List Value} {vs : List V} {ds : List D} {B : Addr → Prop} {μ : List Addr} {F : Hp} {g0 : GS}
    (M1 : Mk X.K (W.ca c0) f) (F1 : FnI X.prog X.w X.K X.mg X.base W k f (W.ca c0) m j g) (b : Bd X (k + 1)) (tk : Takes X Wx) (I : Inv X pins σ H s) (r : Vals vs us) (a : At W B μ F H g0 ρ σ) (rs : Reps W μ F ds vs)
    (q : Run W Wx σ.length B μ F H (cI c0 j m g ds g0) fun d _ μ' F' H' => ∀ v, Rep W μ' F' d v → Q v H') : wpAny (model X.prog X.w) X.A (call (.ref (W.ca c0)) us) (EP X pins σ Q) X.xe s := by
  obtain ⟨fd, ps, n, gu, gV, F2, hb, hv, hr, hl⟩ := F1.ex
  have q2 : Run W Wx σ.length B μ F H ((if ds.length = j then (m (g ds []) >>= fun d => pure (.obj c0 d)) else stuck : M D) g0) (fun d _ μ' F' H' => ∀ v, Rep W μ' F' d v → Q v H') := q
  by_cases h : ds.length = j
  · rw [if_pos h] at q2
    have hvl : vs.length = j := by rw [← rs.length]; exact h
    have n1 : H (s.heap.objs.size + 1) = none := I.hok.fresh (Nat.le_succ _)
    have n2 : H s.heap.objs.size = none := I.hok.fresh (Nat.le_refl _)
    have ne : s.heap.objs.size + 1 ≠ s.heap.objs.size := Nat.succ_ne_self _
    have I2 := Inv.made (C := W.ca c0) I
    have n1' : upd H s.heap.objs.size (.own (s.heap.objs.size + 1)) (s.heap.objs.size + 1) = none := by
      rw [upd_ne ne]
      exact n1
    have fu1 := Fu.own (μ := μ) (B := B) (o := .own (s.heap.objs.size + 1)) a.gd n2
    have rg1 := a.rg.own (o := .own (s.heap.objs.size + 1)) n2
    have gd1 : Guard B F (upd H s.heap.objs.size (.own (s.heap.objs.size + 1))) := a.gd.fu fu1 fun _ z => z
    have fu2 := Fu.own (μ := μ) (B := B) (o := .ins (W.ca c0) s.heap.objs.size []) gd1 n1'
    have rg2 := rg1.own (o := .ins (W.ca c0) s.heap.objs.size []) n1'
    have gd2 := gd1.fu fu2 fun _ z => z
    have hx : (upd (upd H s.heap.objs.size (.own (s.heap.objs.size + 1))) (s.heap.objs.size + 1) (.ins (W.ca c0) s.heap.objs.size [])) (s.heap.objs.size + 1) = some (.ins (W.ca c0) s.heap.objs.size []) := upd_same
    have fx : F (s.heap.objs.size + 1) = none := a.rg.sub.free n1
    have nBx : ¬ B (s.heap.objs.size + 1) := fun z => (a.gd _ z).2 n1
    have nmx : ∀ i : Nat, μ[i]? ≠ some (s.heap.objs.size + 1) := a.rg.notin n1
    let B' : Addr → Prop := fun y => B y ∨ y = s.heap.objs.size + 1
    have sp : spI W (W.ca c0) n m (V.ref (s.heap.objs.size + 1) :: gV vs) (upd (upd H s.heap.objs.size (.own (s.heap.objs.size + 1))) (s.heap.objs.size + 1) (.ins (W.ca c0) s.heap.objs.size [])) (fun v H2 => v = .non ∧ Q (.ref (s.heap.objs.size + 1)) H2) (WE Wx σ) := by
      refine ⟨_, _, gV vs, rfl, hl vs hvl, hx, B', μ, F, g0, g ds [], fun y z => z.elim (gd2 y) fun z => by rw [z]; exact ⟨fx, by rw [hx]; simp⟩, .inr rfl, nmx, rg2, hr μ F ds vs rs, ?_⟩
      have q3 := Run.later q2 (fu1.trans fu2 fun _ z => z) fun _ z => z
      have q4 := Run.bind q3 (B' := B') fun _ z => .inl z
      revert q4
      cases hm : m (g ds []) g0 with
      | ex e g' => exact fun h μ' F' H' cls d _ f rg x _ => h μ' F' H' cls d σ f rg x rfl
      | st => exact id
      | ok d g' =>
        intro q4 μ' F' H' fu3 rg3 v rv
        obtain ⟨h1, h2⟩ := fu3.same_ins hx (.inr rfl) nmx
        have gd3 : Guard B F' H' := fun y z => ⟨fu3.out y (.inl z), fu3.stay y (gd2 y z).2⟩
        have fx3 : F' (s.heap.objs.size + 1) = none := fu3.out _ (.inr rfl)
        have z := q4 μ' F' H' fu3 rg3
        refine ⟨rfl, z μ' _ _ (Fu.seal (o := .ins (W.ca c0) s.heap.objs.size [(("both" : Str), v)]) gd3 fx3 nBx) (rg3.seal fx3 h2) _ ?_⟩
        refine .obj upd_same (rv.mono .refl fun y o e => ?_)
        rw [upd_ne (ne_of_none e fx3)]
        exact e
    have r2 : Vals (V.ref (s.heap.objs.size + 1) :: gV vs) (Value.ref (s.heap.objs.size + 1) :: gu us) := .cons rfl (hv vs us r)
    refine wpAny_call (make_map (f := f) I.kIn M1.makes M1.init (beq_iff_eq.mp M1.fn) (codeAny_mono (F2.run _ X.stack _ _ ⟨Value.ref (s.heap.objs.size + 1) :: us, []⟩ (Value.ref (s.heap.objs.size + 1) :: gu us) _ _ (WE Wx σ) (make_guards.trans b.gd) (b.rm.make (W.ca c0) us [])
      (I2.env0.make (W.ca c0) us []) (hb _ (Value.ref (s.heap.objs.size + 1)) us I2.kIn (by rw [← r.length]; exact hvl)) r2 sp) fun r s' hq' => ?_))
    cases r with
    | error e => exact passAt tk σ pins _ _ e s' I2 hq'
    | ok fl =>
      cases fl with
      | ret u =>
        obtain ⟨v, H', I3, rv, ev, q3⟩ := I2.after hq'
        subst ev
        exact ⟨rv, ⟨V.ref (s.heap.objs.size + 1), H', I3, rfl, q3⟩⟩
      | next => exact False.elim hq'
      | brk => exact False.elim hq'
      | cont => exact False.elim hq'
  · rw [if_neg h] at q2
    exact q2.elim
theorem pd_make {k j : Nat} {f : Addr} {m : List D → M D} {g : List D → List D → List D} {c0 x : Str} {c : Ar} {e : Expr} {es : List Expr} {p pos : Pos} (M1 : Mk X.K (W.ca c0) f) (F1 : FnI X.prog X.w X.K X.mg X.base W k f (W.ca c0) m j g) (b : Bd X (k + 1)) (tk : Takes X Wx)
    (hm : X.mg x = some (.ref (W.ca c0))) (ha : PDa X W Wx (e :: es) ρ c) (hg : Gl X x := by rfl) (hdb : (x == ("__debug__" : Str)) = false := by decide)
    (he : starEach (e :: es) X.env = (false, eval e X.env) :: starEach es X.env := by rfl) (hpl : (backTo pos (starEach es X.env)).any (·.1) = false := by rfl) : PDe X W Wx (.Call (.Name x p) (e :: es) [] pos) ρ (c D (cI c0 j m g)) := by
  refine ⟨⟨fun pins s σ H Q I q => ?_⟩⟩
  refine wpAny_Call_Name_kw (ld_glob I hg hm ?_ hdb)
  refine PySem.W.callWith_K (h₀ := X.base) I.ok.mod.kin M1.kp (thn (ha.p.run pos pins s σ H (fun vs H1 => ∃ B μ F g0 ds, At W B μ F H1 g0 ρ σ ∧ Reps W μ F ds vs ∧ Run W Wx σ.length B μ F H1 (cI c0 j m g ds g0) fun d _ μ' F' H' => ∀ v, Rep W μ' F' d v → Q v H') I (tK_of q ?_))
    fun us s1 ⟨vs, H1, I1, r, B, μ, F, g0, ds, a, rs, q1⟩ => ⟨I1.kIn, ?_⟩) he hpl
  · exact fun ds vs B μ F H g0 a rs q1 => ⟨B, μ, F, g0, ds, a, rs, q1⟩
  · exact run_mk M1 F1 b tk I1 r a rs q1
theorem fnI_of {P : Program} {w : World} {K : PySem.W.Frag} {mg : Str → Option Value} {base : Heap} {k j : Nat} {f C : Addr} {fd : FuncData} {name qual : Str} {params : Arguments} {body : List Stmt} {scope : Scope} {dvs : List V} {kws : List (Str × V)} {N ps : List Str} {m : List D → M D} {n : Nat}
    (F : FunD K name qual params body scope dvs kws f fd) (S : FnScope N ps scope) (hps : ps.length = n + 1)
    (hb : ∀ (X : Cx) (Wx : WX) (ds : List D), Bd X k → Takes X Wx → X.prog = P → X.w = w → X.K = K → X.mg = mg → X.base = base → X.N = N → X.env.scope = scope → True → True) : True := trivial
end
end PD
namespace PD
open PySem PySem.Spec L2
open PyProof.Rows hiding St
def spX (C : Addr) (fld : Str) : Sp := fun vs H Q _ => ∃ a v, vs = [V.ref a, v] ∧ H a = some (exo a C none) ∧ ∀ dx, H dx = none → dx ≠ a → Q .non (upd (upd H dx (exd dx [(fld, v)])) a (exo a C (some dx)))
theorem fnX_of {CX : CXT} {P : Program} {w : World} {K : PySem.W.Frag} {mg : Str → Option Value} {base : Heap} {f C : Addr} {fd : FuncData} {name qual fld : Str} {params : Arguments} {scope : Scope} {dvs : List V} {kws : List (Str × V)} {p1 p2 p3 pos : Pos} {body : List Stmt}
    (F : FunD K name qual params body scope dvs kws f fd) (eb : body = [.Assign [.Attribute (.Name "self" p1) fld p2] (.Name fld p3) pos]) (S : FnScope ["self", fld] ["self", fld] scope) (T : OexC K C) (no : PySem.W.findIn K (.ref C) fld = some none)
    (v0 : Vis scope "self") (v1 : Vis scope fld) (hd : (fld == ("__debug__" : Str)) = false := by decide) (hcd : (fld == ("__classdict__" : Str)) = false := by decide) : FnOk P w K mg base CX 1 f fd ["self", fld] (spX C fld) := by
  refine F.ok S (fun vs H Q E h => ?_) fun cdv A fr s H vs Q E hr h => ?_
  · obtain ⟨a, v, rfl, _⟩ := h
    rfl
  · obtain ⟨a, v, rfl, ha, q⟩ := h
    subst eb
    exact ⟨_, pss_one (ps_ost (pe_var (i := 0) rfl v0) (pe_var (i := 1) rfl v1 hd hcd)), v, rfl, .ref a, rfl, a, C, rfl, T, no, .inl ⟨ha, fun dx hdx ne => q dx hdx ne⟩⟩
structure ExC (P : Program) (w : World) (K : PySem.W.Frag) (mg : Str → Option Value) (base : Heap) (W : Wd) (c0 fld : Str) : Prop where
  T : OexC K (W.ca c0)
  ex : ∃ (fI : Addr) (fd : FuncData), PySem.W.findIn K (.ref (W.ca c0)) "__init__" = some (some (.ref fI)) ∧ PySem.W.typeIn K (.ref fI) = some (.type "function") ∧ FnOk P w K mg base (L2.CX P w) 1 fI fd ["self", fld] (spX (W.ca c0) fld) ∧ Binds K fd ["self", fld] []
section
variable {X : Cx} {W : Wd} {Wx : WX} {ρ : Ro} {S : Type} {mk : S → Ro}
theorem pass_none : Passes (L2.CX X.prog X.w) X (fun _ _ _ => False) := fun _ _ _ _ _ _ _ h => by
  obtain ⟨_, _, _, _, _, _, _, _, _, _, _, _, z⟩ := h
  exact z.elim
theorem d1_raise {c0 fld x : Str} {e : Expr} {m : M D} {p pos pos' : Pos} (T : ExC X.prog X.w X.K X.mg X.base W c0 fld) (b : Bd X 2) (hc : X.calm = true) (tk : Takes X Wx) (hm : X.mg x = some (.ref (W.ca c0))) (h : PDe X W Wx e ρ m) (hg : Gl X x := by rfl)
    (hdb : (x == ("__debug__" : Str)) = false := by decide) (he : starEach [e] X.env = (false, eval e X.env) :: starEach [] X.env := by rfl) (hpl : (backTo pos' (starEach [] X.env)).any (·.1) = false := by rfl) :
    PD1 X W Wx (.Raise (some (.Call (.Name x p) [e] [] pos')) none pos) ρ mk (m >>= fun d => raise ⟨c0, some (fld, d)⟩) := by
  obtain ⟨fI, fd, iC, tI, F1, hb⟩ := T.ex
  refine ⟨PSw (ps_raise hc tk (pmk_oex T.T iC tI F1 b.rm hb .nil pass_none hg hm (pa_cons h.p pa_nil he) hdb he hpl)) fun D0 σ H ⟨B, μ, F, g, a, q⟩ => ?_⟩
  refine ⟨_, μ, F, g, a.at_, (Run.bind q fun _ z => .inl z).mono (fun _ z => z) fun d g1 μ1 F1' H1 f1 r1 q1 v rv => ⟨by show 1 ≤ 1000; decide, fun a' ha => ⟨a', v, rfl, upd_same, fun dx hdx ne => ?_⟩⟩⟩
  have hdx1 : H1 dx = none := by
    rw [upd_ne ne] at hdx
    exact hdx
  have a1 := a.fu f1 (fun _ z => z) r1
  refine ⟨rfl, dx, [(fld, v)], upd_same, by rw [upd_ne ne, upd_same], hdx1, ?_⟩
  have e : upd (del (upd (upd (upd H1 a' (exo a' (W.ca c0) none)) dx (exd dx [(fld, v)])) a' (exo a' (W.ca c0) (some dx))) a') dx (.xd [(fld, v)]) = upd H1 dx (.xd [(fld, v)]) := by
    funext b
    by_cases h1 : b = dx
    · rw [h1, upd_same, upd_same]
    · rw [upd_ne h1, upd_ne h1]
      by_cases h2 : b = a'
      · rw [h2, del_same, ha]
      · rw [del_ne h2, upd_ne h2, upd_ne h1, upd_ne h2]
  rw [e]
  exact q1 μ1 F1' _ (.ref (W.ca c0)) (some dx) σ (Fu.own a1.gd hdx1) (r1.own hdx1) ⟨rfl, dx, v, rfl, upd_same, rv⟩ rfl
def tryM (c0 : Str) (oth : List Str) (m h : M (Fl S)) : M (Fl S) := fun g => match m g with
  | .ok a g' => .ok a g'
  | .ex e g' => if e.c = c0 then nox h g' else if e.c ∈ oth then .ex e g' else .st
  | .st => .st
def allUn (n : Nat) : Ro := List.replicate n .un
theorem AtS.allUn {B : Addr → Prop} {μ : List Addr} {F H : Hp} {g : GS} {σ : L2.St} (gd : Guard B F H) (rg : RG W g μ F H) : AtS W B μ F H g (allUn σ.length) σ := by
  have key : ∀ (n i : Nat) x, (PD.allUn n)[i]? = some x → x = .un := fun n i x e => by
    unfold PD.allUn at e
    rw [List.getElem?_replicate] at e
    by_cases h : i < n
    · rw [if_pos h] at e
      exact (Option.some.inj e).symm
    · rw [if_neg h] at e
      cases e
  refine ⟨gd, ⟨by simp [PD.allUn], fun i x o e1 e2 => ?_, fun i j x y v e1 e2 o1 => ?_⟩, rg, fun a o => ?_⟩
  · rw [key _ _ _ e1]
    trivial
  · rw [key _ _ _ e1] at o1
    cases o1
  · obtain ⟨i, x, e1, e2, _⟩ := o
    rw [key _ _ _ e1] at e2
    cases e2
theorem d1_try {c0 x : Str} {oth : List Str} {body suite : List Stmt} {b₀ : Stmt} {np pos pos' : Pos} {m h : M (Fl S)} (hs : X.stack = X.env :: X.outer) (hf : X.env.frame = some X.env.locals) (tk : Takes X Wx) (hm : X.mg x = some (.ref (W.ca c0)))
    (yes : PySem.W.exmOne X.K (.ref (W.ca c0)) (.ref (W.ca c0)) = some true) (no : ∀ c ∈ oth, PySem.W.exmOne X.K (.ref (W.ca c)) (.ref (W.ca c0)) = some false)
    (hb : ∀ (Wy : WX) (pn : List (Addr × Obj)) (xe : Value → Shared → Prop), Takes (X.tr pn xe) Wy → PassesOwn (model X.prog X.w) X.A X.env xe → PDs (X.tr pn xe) W Wy body ρ mk m)
    (hh : ∀ (a : Addr) (pn : List (Addr × Obj)), PDs (X.suite a pn) W Wf (b₀ :: suite) (allUn ρ.length) mk h) (hg : Gl X x := by rfl) (hdb : (x == ("__debug__" : Str)) = false := by decide) :
    PD1 X W Wx (.Try body [.ExceptHandler (some (.Name x np)) none (b₀ :: suite) pos'] [] [] pos) ρ mk (tryM c0 oth m h) := by
  refine ⟨PSw (ps_try_only (tb := fun Wy => tS W Wy ρ mk m) (ts := fun _ _ _ => tS W Wf (allUn ρ.length) mk h) hs hf ⟨hg, hdb, .inl hm⟩ tk (fun Wy pn xe t p => (hb Wy pn xe t p).p) (fun a oe cls d pn _ _ => (hh a _).p)) fun D0 σ H ⟨B, μ, F, g, a, q⟩ => ⟨B, μ, F, g, a, ?_⟩⟩
  have q2 : Run W Wx σ.length B μ F H ((match m g with
  | .ok a g' => .ok a g'
  | .ex e g' => if e.c = c0 then nox h g' else if e.c ∈ oth then .ex e g' else .st
  | .st => .st : Out (Fl S))) (EndQ W σ.length B D0 mk) := q
  cases hmg : m g with
  | ok r g' =>
    rw [hmg] at q2
    exact q2
  | st =>
    rw [hmg] at q2
    exact q2
  | ex e g' =>
    rw [hmg] at q2
    have q3 : Run W Wx σ.length B μ F H (if e.c = c0 then nox h g' else if e.c ∈ oth then .ex e g' else .st : Out (Fl S)) (EndQ W σ.length B D0 mk) := q2
    intro μ' F' H' cls d σ' f rg xr hl
    by_cases hc : e.c = c0
    · rw [if_pos hc] at q3
      refine ⟨true, by rw [xr.1, hc]; exact yes, fun _ a' _ => ?_, fun z => by cases z⟩
      have hρ : ρ.length = σ'.length := by rw [a.rel.len, hl]
      refine ⟨B, μ', F', g', by rw [hρ]; exact AtS.allUn (a.gd.fu f fun _ z => z) rg, ?_⟩
      have q4 := (Run.nox (n' := σ'.length) q3).later f fun _ z => z
      rw [hl] at q4 ⊢
      exact q4
    · rw [if_neg hc] at q3
      by_cases ho : e.c ∈ oth
      · rw [if_pos ho] at q3
        exact ⟨false, by rw [xr.1]; exact no _ ho, (fun z => by cases z), fun _ => q3 μ' F' H' cls d σ' f rg xr hl⟩
      · rw [if_neg ho] at q3
        exact q3.elim
end
def endF {S : Type} : Fl S → M D
  | .nx _ => pure .non
  | .ret d => pure d
  | .bk _ => stuck
  | .ct _ => stuck
def runS {S : Type} (m : M (Fl S)) : M D := m >>= endF
def startR (N : List Str) (ds : List D) : Ro := ds.map SV.d ++ List.replicate (N.length - ds.length) .un
theorem startR_cases {N : List Str} {ds : List D} {i : Nat} {x : SV} (h : (startR N ds)[i]? = some x) : (∃ d, ds[i]? = some d ∧ x = .d d) ∨ x = .un := by
  unfold startR at h
  by_cases hi : i < (ds.map SV.d).length
  · rw [List.getElem?_append_left hi, List.getElem?_map] at h
    cases e : ds[i]? with
    | none => rw [e] at h; cases h
    | some d => rw [e] at h; exact .inl ⟨d, rfl, (Option.some.inj h).symm⟩
  · rw [List.getElem?_append_right (Nat.le_of_not_lt hi), List.getElem?_replicate] at h
    by_cases hj : i - (ds.map SV.d).length < N.length - ds.length
    · rw [if_pos hj] at h
      exact .inr (Option.some.inj h).symm
    · rw [if_neg hj] at h
      cases h
theorem start_at {W : Wd} {N : List Str} {B : Addr → Prop} {μ : List Addr} {F H : Hp} {g : GS} {ds : List D} {vs : List V} (gd : Guard B F H) (rg : RG W g μ F H) (rs : Reps W μ F ds vs) : AtS W B μ F H g (startR N ds) (start N vs) := by
  refine ⟨gd, ⟨by simp [startR, L2.start, rs.length], fun i x o e1 e2 => ?_, fun i j x y v e1 e2 o1 => ?_⟩, rg, fun a o => ?_⟩
  · rcases startR_cases e1 with ⟨d, ed, rfl⟩ | rfl
    · obtain ⟨v, ev, r⟩ := rs.get ed
      have hi : i < (vs.map some).length := by
        rw [List.length_map]
        exact (List.getElem?_eq_some_iff.mp ev).1
      unfold L2.start at e2
      rw [List.getElem?_append_left hi, List.getElem?_map, ev] at e2
      cases e2
      exact ⟨v, rfl, r⟩
    · trivial
  · rcases startR_cases e1 with ⟨d, ed, rfl⟩ | rfl <;> cases o1
  · obtain ⟨i, x, e1, e2, _⟩ := o
    rcases startR_cases e1 with ⟨d, ed, rfl⟩ | rfl <;> cases e2
theorem Run.wx0 {α : Type} {W : Wd} {n n' : Nat} {E : XK} {B : Addr → Prop} {μ : List Addr} {F H : Hp} {o : Out α} {Q : α → GS → List Addr → Hp → Hp → Prop} (h : Run W (fun cls d _ H' => E cls d H') n B μ F H o Q) : Run W (fun cls d _ H' => E cls d H') n' B μ F H o Q := by
  cases o with
  | ok a g' => exact h
  | ex e g' => exact fun μ' F' H' cls d σ' f rg x _ => h μ' F' H' cls d (List.replicate n none) f rg x (by simp)
  | st => exact h
section
variable {P : Program} {w : World} {K : PySem.W.Frag} {mg : Str → Option Value} {base : Heap} {k : Nat} {f : Addr} {fd : FuncData} {name qual : Str} {params : Arguments} {body : List Stmt} {scope : Scope} {dvs : List V} {kws : List (Str × V)} {N ps : List Str} {W : Wd} {n : Nat} {m : List D → M D}
theorem fn_body (F : FunD K name qual params body scope dvs kws f fd) (S : FnScope N ps scope) (hps : ps.length = n)
    (hb : ∀ (cdv : Value) (A : Around) (fr : List Env) (s : Shared) (H : Hp) (E : XK) (ds : List D), ds.length = n → Bd (cxOf (L2.CX P w) P w K mg base N qual scope f cdv A fr s H E) k →
      Takes (cxOf (L2.CX P w) P w K mg base N qual scope f cdv A fr s H E) (fun cls d _ H' => E cls d H') → PassesOwn (model P w) (cxOf (L2.CX P w) P w K mg base N qual scope f cdv A fr s H E).A (cxOf (L2.CX P w) P w K mg base N qual scope f cdv A fr s H E).env (cxOf (L2.CX P w) P w K mg base N qual scope f cdv A fr s H E).xe →
      ∃ mm : M (Fl Unit), PDs (cxOf (L2.CX P w) P w K mg base N qual scope f cdv A fr s H E) W (fun cls d _ H' => E cls d H') body (startR N ds) (fun _ => allUn N.length) mm ∧ runS mm = m ds) :
    FnG P w K mg base (k + 1) f fd ps (spD W n m) := by
  refine fnG_of F S (fun vs H Q E h => by rw [hps]; exact h.1) fun cdv A fr s H vs Q E gd rm h => ?_
  obtain ⟨hl, B, μ, F1, g, ds, gd1, rg, rs, run⟩ := h
  have tk : Takes (cxOf (L2.CX P w) P w K mg base N qual scope f cdv A fr s H E) (fun cls d _ H' => E cls d H') := takes_of rfl rfl rfl rfl
  obtain ⟨mm, pd, e⟩ := hb cdv A fr s H E ds (by rw [rs.length]; exact hl) ⟨rm, gd⟩ tk (passes_of rfl)
  refine ⟨_, pd.p, B, μ, F1, g, start_at gd1 rg rs, ?_⟩
  rw [← e] at run
  have r2 := Run.bind (B' := B) (Run.wx0 (n' := (start N vs).length) run) fun _ z => z
  refine r2.mono (fun _ z => z) fun r g1 μ1 F1' H1 f1 r1 q1 => ?_
  cases r with
  | nx t =>
    intro σ' _ a'
    exact Run.pure (a := D.non) q1 (gd1.fu f1 fun _ z => z) r1 .non .non
  | ret d => exact fun v r => Run.pure (a := d) q1 (gd1.fu f1 fun _ z => z) r1 v r
  | bk t => exact q1.elim
  | ct t => exact q1.elim
theorem fn_init {C : Addr} {m : List D → M D} (F : FunD K name qual params body scope dvs kws f fd) (S : FnScope N ps scope) (hps : ps.length = n + 1)
    (hb : ∀ (cdv : Value) (A : Around) (fr : List Env) (s : Shared) (H : Hp) (E : XK) (ds : List D), ds.length = n → Bd (cxOf (L2.CX P w) P w K mg base N qual scope f cdv A fr s H E) k →
      Takes (cxOf (L2.CX P w) P w K mg base N qual scope f cdv A fr s H E) (fun cls d _ H' => E cls d H') →
      PDI (cxOf (L2.CX P w) P w K mg base N qual scope f cdv A fr s H E) W (fun cls d _ H' => E cls d H') C body (.un :: startR N.tail ds) (m ds)) :
    FnG P w K mg base (k + 1) f fd ps (spI W C n m) := by
  have hN : N.length = N.tail.length + 1 := by
    have h := S.pre
    cases N with
    | nil =>
      cases ps with
      | nil => cases hps
      | cons _ _ => cases h
    | cons a l => rfl
  refine fnG_of F S (fun vs H Q E h => ?_) fun cdv A fr s H vs Q E gd rm h => ?_
  · obtain ⟨x, dx, us, rfl, hl, _⟩ := h
    rw [hps, List.length_cons, hl]
  · obtain ⟨x, dx, us, rfl, hl, hx, B, μ, F1, g, ds, gd1, bx, nx, rg, rs, run⟩ := h
    have tk : Takes (cxOf (L2.CX P w) P w K mg base N qual scope f cdv A fr s H E) (fun cls d _ H' => E cls d H') := takes_of rfl rfl rfl rfl
    have pd := hb cdv A fr s H E ds (by rw [rs.length]; exact hl) ⟨rm, gd⟩ tk
    have es : start N (.ref x :: us) = some (.ref x) :: start N.tail us := by
      unfold L2.start
      rw [hN, List.length_cons, Nat.succ_sub_succ]
      rfl
    have a0 := start_at (N := N.tail) gd1 rg rs
    have a : AtS W B μ F1 H g (.un :: startR N.tail ds) (start N (.ref x :: us)) := by
      rw [es]
      refine ⟨gd1, ⟨congrArg Nat.succ a0.rel.len, fun i x o e1 e2 => ?_, fun i j x y v e1 e2 o1 o2 e3 e4 => ?_⟩, rg, fun b o => ?_⟩
      · cases i with
        | zero => cases e1; trivial
        | succ i => exact a0.rel.at_ i x o e1 e2
      · cases i with
        | zero => cases e1; cases o1
        | succ i =>
          cases j with
          | zero => cases e2; cases o2
          | succ j => exact congrArg Nat.succ (a0.rel.own i j x y v e1 e2 o1 o2 e3 e4)
      · obtain ⟨i, y, e1, e2, e3⟩ := o
        cases i with
        | zero => cases e1; cases e2
        | succ i => exact a0.own b ⟨i, y, e1, e2, e3⟩
    refine ⟨_, pd.p, B, μ, F1, g, x, dx, a, by rw [es]; rfl, hx, bx, nx, Run.wx0 run⟩
theorem fnB_all (G : FnG P w K mg base k f fd ps (spD W n m)) (F : FunD K name qual params body scope dvs kws f fd) (hb : Binds K fd ps []) (hn : ps.length = n) : FnB P w K mg base W k f m n [] (fun ds _ => ds) := by
  refine ⟨⟨fd, ps, n, fun us _ => us, fun vs _ => vs, G, fun s us ws X l1 l2 => ?_, fun _ _ _ _ r _ => r, fun _ _ _ _ _ _ r _ => r, fun vs _ h _ => h⟩, F.kp⟩
  have z := hb s us X (by rw [List.append_nil, l1, hn])
  rw [List.append_nil] at z
  exact z
theorem fnI_all {C : Addr} (G : FnG P w K mg base k f fd ps (spI W C n m)) (hb : Binds K fd ps []) (hn : ps.length = n + 1) : FnI P w K mg base W k f C m n (fun ds _ => ds) := by
  refine ⟨fd, ps, n, fun us => us, fun vs => vs, G, fun s u us X l1 => ?_, fun _ _ r => r, fun _ _ _ _ r => r, fun vs h => h⟩
  have z := hb s (u :: us) X (by rw [List.append_nil, hn, List.length_cons, l1])
  rw [List.append_nil] at z
  exact z
end
abbrev TyN : Type := String ⊕ Str
def D.tyN : D → Option TyN
  | .non => some (.inl "NoneType")
  | .bl _ => some (.inl "bool")
  | .int _ => some (.inl "int")
  | .str _ => some (.inl "str")
  | .tup _ => some (.inl "tuple")
  | .lst _ => some (.inl "list")
  | .scr _ => some (.inl "list")
  | .dct _ _ => some (.inl "dict")
  | .obj c _ => some (.inr c)
  | .id _ => none
def tyW (W : Wd) : TyN → Value
  | .inl s => .type s
  | .inr c => .ref (W.ca c)
structure Kin (K : PySem.W.Frag) (C : Addr) : Prop where
  cl : Cls K C
  ha : PySem.W.findIn K (.ref C) "__class__" = some (some (.builtin "object.__class__"))
  hn : PySem.W.specialIn K (.builtin "object.__class__") "__get__" = some (some (.builtin "getset_descriptor.__get__"))
  htk : PySem.W.takesIn K (.builtin "object.__class__") = some true
  hm : PySem.W.mroIn K C (.type "object") = some true
theorem tyX_of {W : Wd} {μ : List Addr} {F H : Hp} {d : D} {v : V} {t : TyN} (sub : Same F H) (hk : ∀ c, t = .inr c → Kin W.K (W.ca c)) (r : Rep W μ F d v) (e : d.tyN = some t) : TyX W.K H v (tyW W t) := by
  cases r with
  | non => cases e; exact .base .non
  | bl b => cases e; exact .base (.bl b)
  | int i => cases e; exact .base (.int i)
  | str x => cases e; exact .base (.str x)
  | tup h r =>
    cases e
    rcases Same.tup sub h.sq with (h | ⟨o, h⟩) | h
    · exact .base (.tup h)
    · exact .fTuple h
    · obtain ⟨o, _, _, h1, h2, _⟩ := h
      exact .kTuple h1 h2
  | lst h r => cases e; exact .base (.lst (sub _ _ h))
  | scr h r =>
    cases e
    rcases sub.seq h with (h | ⟨o, h⟩) | h
    · exact .base (.lst h)
    · exact .base (.frz h)
    · obtain ⟨o, _, _, h1, h2, _⟩ := h
      exact .kList h1 h2
  | dct h r => cases e; exact .base (.dK (sub _ _ h))
  | obj h r =>
    cases e
    have k := hk _ rfl
    exact .base (.ins (sub _ _ h) k.cl k.ha k.hn k.htk k.hm)
  | id h => cases e
def tblGet (t : TyN) : List (TyN × Bool) → Option Bool
  | [] => none
  | (u, b) :: l => if u = t then some b else tblGet t l
theorem tblGet_mem {t : TyN} {b : Bool} : ∀ {l : List (TyN × Bool)}, tblGet t l = some b → (t, b) ∈ l
  | [], h => by cases h
  | (u, c) :: l, h => by
    unfold tblGet at h
    by_cases e : u = t
    · rw [if_pos e] at h
      cases h
      rw [e]
      exact List.mem_cons_self
    · rw [if_neg e] at h
      exact List.mem_cons_of_mem _ (tblGet_mem h)
def isiD (tbl : List (TyN × Bool)) (d : D) : M D := match d.tyN with
  | some t => (match tblGet t tbl with
    | some b => pure (.bl b)
    | none => stuck)
  | none => stuck
def tys : List String := ["NoneType", "bool", "int", "str", "tuple", "list", "dict"]
def subT (s T : String) : Bool := s == T || (s == "bool" && T == "int")
theorem kit_ty (K : PySem.W.Frag) : ∀ s ∈ tys, ∀ T ∈ ["bool", "int", "str", "tuple", "list", "dict"], PySem.W.kitOne K (.type s) (.type T) = some (subT s T) := by
  intro s hs T hT
  simp only [tys, List.mem_cons, List.not_mem_nil, or_false] at hs hT
  rcases hs with h | h | h | h | h | h | h <;> subst h <;> (rcases hT with h | h | h | h | h | h <;> subst h <;> rfl)
def tblT (T : String) (cs : List Str) : List (TyN × Bool) := tys.map (fun s => (Sum.inl s, subT s T)) ++ cs.map fun c => (Sum.inr c, false)
section
variable {X : Cx} {W : Wd} {Wx : WX} {ρ : Ro}
structure Tbl (K : PySem.W.Frag) (W : Wd) (u : Value) (tbl : List (TyN × Bool)) : Prop where
  ok : ∀ t b, (t, b) ∈ tbl → PySem.W.kitOne K (tyW W t) u = some b
  own : ∀ c b, ((Sum.inr c : TyN), b) ∈ tbl → Kin K (W.ca c)
theorem tbl_T {K : PySem.W.Frag} {T : String} (hT : T ∈ ["bool", "int", "str", "tuple", "list", "dict"]) : Tbl K W (.type T) (tblT T []) := by
  refine ⟨fun t b h => ?_, fun c b h => ?_⟩
  · unfold tblT at h
    rw [List.map_nil, List.append_nil] at h
    obtain ⟨s, hs, e⟩ := List.mem_map.mp h
    cases e
    exact kit_ty K s hs T hT
  · unfold tblT at h
    rw [List.map_nil, List.append_nil] at h
    obtain ⟨s, hs, e⟩ := List.mem_map.mp h
    cases e
theorem tbl_To {K : PySem.W.Frag} {T : String} {cs : List Str} (hT : T ∈ ["bool", "int", "str", "tuple", "list", "dict"]) (hc : ∀ c ∈ cs, PySem.W.kitOne K (.ref (W.ca c)) (.type T) = some false ∧ Kin K (W.ca c)) : Tbl K W (.type T) (tblT T cs) := by
  refine ⟨fun t b h => ?_, fun c b h => ?_⟩
  · unfold tblT at h
    rcases List.mem_append.mp h with h | h
    · obtain ⟨s, hs, e⟩ := List.mem_map.mp h
      cases e
      exact kit_ty K s hs T hT
    · obtain ⟨s, hs, e⟩ := List.mem_map.mp h
      cases e
      exact (hc _ hs).1
  · unfold tblT at h
    rcases List.mem_append.mp h with h | h
    · obtain ⟨s, hs, e⟩ := List.mem_map.mp h
      cases e
    · obtain ⟨s, hs, e⟩ := List.mem_map.mp h
      cases e
      exact (hc _ hs).2
theorem rIsi_of {K : PySem.W.Frag} {tbl : List (TyN × Bool)} {B : Addr → Prop} {μ : List Addr} {F H : Hp} {g : GS} {d : D} {v c : V} {u : Value} {Q : VK} {n : Nat} (hK : W.K = K) (tb : Tbl K W u tbl) (k : ClsV c u) (gd : Guard B F H) (rg : RG W g μ F H) (r : Rep W μ F d v)
    (q : Run W Wx n B μ F H (isiD tbl d g) fun d _ μ' F' H' => ∀ v, Rep W μ' F' d v → Q v H') : rIsi K [v, c] H Q := by
  subst hK
  have q2 : Run W Wx n B μ F H ((match d.tyN with
  | some t => (match tblGet t tbl with
    | some b => pure (.bl b)
    | none => stuck)
  | none => stuck : M D) g) (fun d _ μ' F' H' => ∀ v, Rep W μ' F' d v → Q v H') := q
  cases ht : d.tyN with
  | none => rw [ht] at q2; exact q2.elim
  | some t =>
    rw [ht] at q2
    have q3 : Run W Wx n B μ F H ((match tblGet t tbl with
    | some b => pure (.bl b)
    | none => stuck : M D) g) (fun d _ μ' F' H' => ∀ v, Rep W μ' F' d v → Q v H') := q2
    cases hb : tblGet t tbl with
    | none => rw [hb] at q3; exact q3.elim
    | some b =>
      rw [hb] at q3
      have hm := tblGet_mem hb
      exact ⟨v, c, tyW W t, u, b, rfl, k, tyX_of rg.sub (fun c e => by subst e; exact tb.own c b hm) r ht, tb.ok t b hm, Run.pure (a := D.bl b) q3 gd rg _ (.bl b)⟩
theorem pd_isiT {e : Expr} {m : M D} {tbl : List (TyN × Bool)} {T : String} {x : Str} {p p2 pos : Pos} (hK : W.K = X.K) (hm : X.mg "isinstance" = none) (hx : X.mg x = none) (hv : bootBuiltins x = some (.type T)) (tb : Tbl X.K W (.type T) tbl) (h : PDe X W Wx e ρ m) (hg : Gl X "isinstance" := by rfl) (hgx : Gl X x := by rfl)
    (hn : x ≠ "__name__" := by decide) (hdb : (x == ("__debug__" : Str)) = false := by decide) (h1 : starEach [e, .Name x p2] X.env = (false, eval e X.env) :: starEach [.Name x p2] X.env := by rfl) (h2 : starEach [.Name x p2] X.env = (false, eval (.Name x p2) X.env) :: starEach [] X.env := by rfl)
    (hpl : (backTo pos (starEach [.Name x p2] X.env)).any (·.1) = false := by rfl) : PDe X W Wx (.Call (.Name "isinstance" p) [e, .Name x p2] [] pos) ρ (m >>= isiD tbl) :=
  ⟨PEw (pe_callB call_isi hg hm (by decide +kernel) (pa_cons h.p (pa_cons (pe_bltn (v := .ty T) hgx hx hv rfl hn hdb) pa_nil h2) h1) (by decide) (by decide) h1 hpl) fun σ H Q ⟨B, μ, F, g, a, q⟩ => ⟨B, μ, F, g, a, (Run.bind q fun _ z => z).mono (fun _ z => z) fun d g1 μ1 F1 H1 f1 r1 q1 v p => by
    exact rIsi_of hK tb (.ty T) (a.gd.fu f1 fun _ z => z) r1 p q1⟩⟩
theorem pd_isiC {e : Expr} {m : M D} {tbl : List (TyN × Bool)} {c0 x : Str} {p p2 pos : Pos} (hK : W.K = X.K) (hm : X.mg "isinstance" = none) (hx : X.mg x = some (.ref (W.ca c0))) (tb : Tbl X.K W (.ref (W.ca c0)) tbl) (h : PDe X W Wx e ρ m) (hg : Gl X "isinstance" := by rfl) (hgx : Gl X x := by rfl)
    (hdb : (x == ("__debug__" : Str)) = false := by decide) (h1 : starEach [e, .Name x p2] X.env = (false, eval e X.env) :: starEach [.Name x p2] X.env := by rfl) (h2 : starEach [.Name x p2] X.env = (false, eval (.Name x p2) X.env) :: starEach [] X.env := by rfl)
    (hpl : (backTo pos (starEach [.Name x p2] X.env)).any (·.1) = false := by rfl) : PDe X W Wx (.Call (.Name "isinstance" p) [e, .Name x p2] [] pos) ρ (m >>= isiD tbl) :=
  ⟨PEw (pe_callB call_isi hg hm (by decide +kernel) (pa_cons h.p (pa_cons (pe_glob (v := .ref (W.ca c0)) hgx hx rfl hdb) pa_nil h2) h1) (by decide) (by decide) h1 hpl) fun σ H Q ⟨B, μ, F, g, a, q⟩ => ⟨B, μ, F, g, a, (Run.bind q fun _ z => z).mono (fun _ z => z) fun d g1 μ1 F1 H1 f1 r1 q1 v p => by
    exact rIsi_of hK tb (.own _) (a.gd.fu f1 fun _ z => z) r1 p q1⟩⟩
def vOf : D → V
  | .int i => .int i
  | .str x => .str x
  | .bl b => .bl b
  | _ => .non
def D.simple : D → Bool
  | .int _ => true
  | .str _ => true
  | .bl _ => true
  | .non => true
  | _ => false
theorem rep_vOf {μ : List Addr} {F : Hp} {d : D} (h : d.simple = true) : Rep W μ F d (vOf d) := by
  cases d with
  | non => exact .non
  | bl b => exact .bl b
  | int i => exact .int i
  | str x => exact .str x
  | _ => cases h
structure MdS (P : Program) (w : World) (K : PySem.W.Frag) (a : Addr) (kvs : List (Str × D)) : Prop where
  ok : ∀ h : Heap, K.In h → ∃ f : Str → Option Value, h.MapOf (strKind P w) a f ∧ ∀ z, RelO ((kvs.lookup z).map vOf) (f z)
  low : (a == sysModules) = false
  sim : ∀ z d, kvs.lookup z = some d → d.simple = true
structure MdI (P : Program) (w : World) (K : PySem.W.Frag) (a : Addr) (kvs : List (Int × D)) : Prop where
  ok : ∀ h : Heap, K.In h → ∃ f : Int → Option Value, h.MapOf (intKind P w) a f ∧ ∀ z, RelO ((kvs.lookup z).map vOf) (f z)
  low : (a == sysModules) = false
  sim : ∀ z d, kvs.lookup z = some d → d.simple = true
def mdIn (neg : Bool) (kvs : List (Str × D)) : D → M D
  | .str z => pure (.bl (neg? neg (kvs.lookup z).isSome))
  | _ => stuck
def mdIx (kvs : List (Str × D)) : D → M D
  | .str z => (match kvs.lookup z with
    | some d => pure d
    | none => stuck)
  | _ => stuck
def mdIxI (kvs : List (Int × D)) : D → M D
  | .int z => (match kvs.lookup z with
    | some d => pure d
    | none => stuck)
  | _ => stuck
theorem relO_some {o : Option V} {u : Option Value} (h : RelO o u) : o.isSome = u.isSome := by
  cases o <;> cases u <;> first | rfl | exact h.elim
section
variable {a : Addr} {kvs : List (Str × D)} {kvi : List (Int × D)}
theorem op_inMd (T : MdS X.prog X.w X.K a kvs) : OpR X (compareOp .In) (fun x y H Q => ∃ z : Str, x = .str z ∧ y = .ref a ∧ Q (.bl (kvs.lookup z).isSome) H) := by
  intro pins s σ H x y v u Q I rx ry h
  obtain ⟨z, rfl, rfl, q⟩ := h
  obtain ⟨t, rfl⟩ := rx
  cases ry
  obtain ⟨f, hm, hf⟩ := T.ok s.heap I.kIn
  refine wpAny_in_of (PySem.strKind_is X.prog X.w z t) T.low hm ?_
  have e := relO_some (hf z)
  rw [Option.isSome_map] at e
  rw [← e]
  exact ⟨.bl (kvs.lookup z).isSome, H, I.tok _, rfl, q⟩
theorem op_notInMd (T : MdS X.prog X.w X.K a kvs) : OpR X (compareOp .NotIn) (fun x y H Q => ∃ z : Str, x = .str z ∧ y = .ref a ∧ Q (.bl (!(kvs.lookup z).isSome)) H) := by
  intro pins s σ H x y v u Q I rx ry h
  obtain ⟨z, rfl, rfl, q⟩ := h
  obtain ⟨t, rfl⟩ := rx
  cases ry
  obtain ⟨f, hm, hf⟩ := T.ok s.heap I.kIn
  refine wpAny_notIn_of (PySem.strKind_is X.prog X.w z t) T.low hm ?_
  have e := relO_some (hf z)
  rw [Option.isSome_map] at e
  rw [← e]
  exact ⟨.bl (!(kvs.lookup z).isSome), H, I.tok _, rfl, q⟩
theorem ix_Md (T : MdS X.prog X.w X.K a kvs) : IxR X (fun x y H Q => ∃ (z : Str) (d : D), x = .ref a ∧ y = .str z ∧ kvs.lookup z = some d ∧ Q (vOf d) H) := by
  intro value slice pins s σ H x y v u Q I rx ry h hs
  obtain ⟨z, d, rfl, rfl, e, q⟩ := h
  cases rx
  obtain ⟨t, rfl⟩ := ry
  obtain ⟨f, hm, hf⟩ := T.ok s.heap I.kIn
  have r := hf z
  rw [e] at r
  obtain ⟨u, eu, ru⟩ := RelO.some_of (v := vOf d) r
  exact tail_any hm.typeIs slot_dict_getitem.lookup (wpAny_getItem_of (strKind_is X.prog X.w z t) hm eu ⟨_, H, I.tok _, ru, q⟩) hs
theorem ix_MdI (T : MdI X.prog X.w X.K a kvi) : IxR X (fun x y H Q => ∃ (z : Int) (d : D), x = .ref a ∧ y = .int z ∧ kvi.lookup z = some d ∧ Q (vOf d) H) := by
  intro value slice pins s σ H x y v u Q I rx ry h hs
  obtain ⟨z, d, rfl, rfl, e, q⟩ := h
  cases rx
  obtain ⟨t, rfl⟩ := ry
  obtain ⟨f, hm, hf⟩ := T.ok s.heap I.kIn
  have r := hf z
  rw [e] at r
  obtain ⟨u, eu, ru⟩ := RelO.some_of (v := vOf d) r
  exact tail_any hm.typeIs slot_dict_getitem.lookup (wpAny_getItem_of (intKind_is X.prog X.w z t) hm eu ⟨_, H, I.tok _, ru, q⟩) hs
variable {e : Expr} {m : M D} {x : Str} {p pos : Pos}
theorem md_read {neg : Bool} {tv : TE} {σ : L2.St} {H : Hp} {Q : VK} (q : tE W Wx ρ (m >>= mdIn neg kvs) σ H Q) (k : ∀ H Q, Q (.ref a) H → tv σ H Q) : tOp (fun x y H Q => ∃ z : Str, x = .str z ∧ y = .ref a ∧ Q (.bl (neg? neg (kvs.lookup z).isSome)) H) (tE W Wx ρ m) tv σ H Q := by
  obtain ⟨B, μ, F, g, a0, q⟩ := q
  refine ⟨B, μ, F, g, a0, (Run.bind q fun _ z => z).mono (fun _ z => z) fun d g1 μ1 F1 H1 f1 r1 q1 v p => k _ _ ?_⟩
  cases p with
  | str z => exact ⟨z, rfl, rfl, Run.pure (a := D.bl _) q1 (a0.gd.fu f1 fun _ z => z) r1 _ (.bl _)⟩
  | _ => exact q1.elim
theorem pd_inMd (T : MdS X.prog X.w X.K a kvs) (hm : X.mg x = some (.ref a)) (h : PDe X W Wx e ρ m) (hg : Gl X x := by rfl) (hdb : (x == ("__debug__" : Str)) = false := by decide) (hb : behindInMarks .In (.Name x p) = false := by rfl) : PDe X W Wx (.Compare e [.In] [.Name x p] pos) ρ (m >>= mdIn false kvs) :=
  ⟨PEw (pe_cmpR (op_inMd T) h.p (pe_glob (v := .ref a) hg hm rfl hdb) hb) fun σ H Q q => md_read (neg := false) q fun _ _ z => z⟩
theorem pd_notInMd (T : MdS X.prog X.w X.K a kvs) (hm : X.mg x = some (.ref a)) (h : PDe X W Wx e ρ m) (hg : Gl X x := by rfl) (hdb : (x == ("__debug__" : Str)) = false := by decide) (hb : behindInMarks .NotIn (.Name x p) = false := by rfl) : PDe X W Wx (.Compare e [.NotIn] [.Name x p] pos) ρ (m >>= mdIn true kvs) :=
  ⟨PEw (pe_cmpR (op_notInMd T) h.p (pe_glob (v := .ref a) hg hm rfl hdb) hb) fun σ H Q q => md_read (neg := true) q fun _ _ z => z⟩
theorem pt_notInMd (T : MdS X.prog X.w X.K a kvs) (hm : X.mg x = some (.ref a)) (h : PDe X W Wx e ρ m) (hg : Gl X x := by rfl) (hdb : (x == ("__debug__" : Str)) = false := by decide) (hb : behindInMarks .NotIn (.Name x p) = false := by rfl) : PDt X W Wx (.Compare e [.NotIn] [.Name x p] pos) ρ (b1 asB (m >>= mdIn true kvs)) :=
  ⟨PTw (pt_cmpR (op_notInMd T) h.p (pe_glob (v := .ref a) hg hm rfl hdb) hb) fun _ _ _ q => tT_of q fun _ _ _ q => md_read (neg := true) q fun _ _ z => z⟩
theorem pt_inMd (T : MdS X.prog X.w X.K a kvs) (hm : X.mg x = some (.ref a)) (h : PDe X W Wx e ρ m) (hg : Gl X x := by rfl) (hdb : (x == ("__debug__" : Str)) = false := by decide) (hb : behindInMarks .In (.Name x p) = false := by rfl) : PDt X W Wx (.Compare e [.In] [.Name x p] pos) ρ (b1 asB (m >>= mdIn false kvs)) :=
  ⟨PTw (pt_cmpR (op_inMd T) h.p (pe_glob (v := .ref a) hg hm rfl hdb) hb) fun _ _ _ q => tT_of q fun _ _ _ q => md_read (neg := false) q fun _ _ z => z⟩
theorem pd_ixMd (T : MdS X.prog X.w X.K a kvs) (hm : X.mg x = some (.ref a)) (h : PDe X W Wx e ρ m) (hg : Gl X x := by rfl) (hdb : (x == ("__debug__" : Str)) = false := by decide) (hs : PlainIx e := by exact fun _ _ => rfl) : PDe X W Wx (.Subscript (.Name x p) e pos) ρ (m >>= mdIx kvs) :=
  ⟨PEw (pe_ix (ix_Md T) (pe_glob (v := .ref a) hg hm rfl hdb) h.p hs) fun σ H Q ⟨B, μ, F, g, a0, q⟩ => ⟨B, μ, F, g, a0, (Run.bind q fun _ z => z).mono (fun _ z => z) fun d g1 μ1 F1 H1 f1 r1 q1 v p => by
    cases p with
    | str z =>
      have q2 : Run W Wx σ.length B μ1 F1 H1 ((match kvs.lookup z with
        | some d => pure d
        | none => stuck : M D) g1) (fun d _ μ' F' H' => ∀ v, Rep W μ' F' d v → Q v H') := q1
      cases e : kvs.lookup z with
      | none => rw [e] at q2; exact q2.elim
      | some d =>
        rw [e] at q2
        exact ⟨z, d, rfl, rfl, e, Run.pure (a := d) q2 (a0.gd.fu f1 fun _ z => z) r1 _ (rep_vOf (T.sim z d e))⟩
    | _ => exact q1.elim⟩⟩
theorem pd_ixMdI (T : MdI X.prog X.w X.K a kvi) (hm : X.mg x = some (.ref a)) (h : PDe X W Wx e ρ m) (hg : Gl X x := by rfl) (hdb : (x == ("__debug__" : Str)) = false := by decide) (hs : PlainIx e := by exact fun _ _ => rfl) : PDe X W Wx (.Subscript (.Name x p) e pos) ρ (m >>= mdIxI kvi) :=
  ⟨PEw (pe_ix (ix_MdI T) (pe_glob (v := .ref a) hg hm rfl hdb) h.p hs) fun σ H Q ⟨B, μ, F, g, a0, q⟩ => ⟨B, μ, F, g, a0, (Run.bind q fun _ z => z).mono (fun _ z => z) fun d g1 μ1 F1 H1 f1 r1 q1 v p => by
    cases p with
    | int z =>
      have q2 : Run W Wx σ.length B μ1 F1 H1 ((match kvi.lookup z with
        | some d => pure d
        | none => stuck : M D) g1) (fun d _ μ' F' H' => ∀ v, Rep W μ' F' d v → Q v H') := q1
      cases e : kvi.lookup z with
      | none => rw [e] at q2; exact q2.elim
      | some d =>
        rw [e] at q2
        exact ⟨z, d, rfl, rfl, e, Run.pure (a := d) q2 (a0.gd.fu f1 fun _ z => z) r1 _ (rep_vOf (T.sim z d e))⟩
    | _ => exact q1.elim⟩⟩
end
end
end PD
namespace PD
open PySem PySem.Spec L2
open PyProof.Rows hiding St
def OpX (X : Cx) (W : Wd) (Wx : WX) (ρ : Ro) (f : Value → Value → Sem Value) (md : D → D → M D) : Prop :=
  ∀ (pins : List (Addr × Obj)) (s : Shared) (σ : L2.St) (H : Hp) (x y : V) (v u : Value) (Q : VK) (B : Addr → Prop) (μ : List Addr) (F : Hp) (g : GS) (dx dy : D), Inv X pins σ H s → RelV x v → RelV y u → At W B μ F H g ρ σ → Rep W μ F dx x → Rep W μ F dy y →
    Run W Wx σ.length B μ F H (md dx dy g) (fun d _ μ' F' H' => ∀ v, Rep W μ' F' d v → Q v H') → wpAny (model X.prog X.w) X.A (f v u) (EP X pins σ Q) X.xe s
section
variable {X : Cx} {W : Wd} {Wx : WX} {ρ : Ro} {a b e o : Expr} {m1 m2 me mo : M D} {p pos : Pos} {k : Nat}
theorem opX_of {f : Value → Value → Sem Value} {r : R2} {md : D → D → M D} (ho : OpR X f r) (h : OpD W r md) : OpX X W Wx ρ f md := fun pins s σ H x y v u Q B μ F g dx dy I rx ry a px py q => ho pins s σ H x y v u Q I rx ry (h B μ F H g x y dx dy Q Wx σ.length a.gd a.rg px py q)
def tX2 (W : Wd) (Wx : WX) (ρ : Ro) (md : D → D → M D) (Q : VK) (σ : L2.St) : V → V → Hp → Prop := fun x y H => ∃ B μ F g dx dy, At W B μ F H g ρ σ ∧ Rep W μ F dx x ∧ Rep W μ F dy y ∧ Run W Wx σ.length B μ F H (md dx dy g) (fun d _ μ' F' H' => ∀ v, Rep W μ' F' d v → Q v H')
theorem tX2_of {md : D → D → M D} {σ : L2.St} {H : Hp} {Q : VK} (q : tE W Wx ρ (b2 md m1 m2) σ H Q) : tE W Wx ρ m1 σ H fun x H1 => tE W Wx ρ m2 σ H1 fun y H2 => tX2 W Wx ρ md Q σ x y H2 := by
  obtain ⟨B, μ, F, g, a, q⟩ := q
  refine ⟨B, μ, F, g, a, (Run.bind q fun _ z => z).mono (fun _ z => z) fun d1 g1 μ1 F1 H1 f1 r1 q1 v1 p1 => ?_⟩
  have a1 := a.fu f1 (fun _ z => z) r1
  refine ⟨B, μ1, F1, g1, a1, (Run.bind q1 fun _ z => z).mono (fun _ z => z) fun d2 g2 μ2 F2 H2 f2 r2 q2 v2 p2 => ?_⟩
  exact ⟨B, μ2, F2, g2, d1, d2, a1.fu f2 (fun _ z => z) r2, p1.mono f2.grow f2.fro, p2, q2⟩
theorem pdx_cmp {op : CmpOp} {md : D → D → M D} (ho : OpX X W Wx ρ (compareOp op) md) (ha : PDe X W Wx a ρ m1) (hb : PDe X W Wx b ρ m2) (hm : behindInMarks op b = false) : PDe X W Wx (.Compare a [op] [b] pos) ρ (b2 md m1 m2) := by
  refine ⟨⟨fun pins s σ H Q I h => ?_⟩⟩
  exact wpAny_Compare1 (binT ha.p hb.p I (tX2_of h) fun v u s2 x y H2 I2 rx ry ⟨B, μ, F, g, dx, dy, a, px, py, q⟩ => ho pins s2 σ H2 x y v u Q B μ F g dx dy I2 rx ry a px py q) hm
theorem ptx_cmp {op : CmpOp} {md : D → D → M D} (ho : OpX X W Wx ρ (compareOp op) md) (ha : PDe X W Wx a ρ m1) (hb : PDe X W Wx b ρ m2) (hm : behindInMarks op b = false) : PDt X W Wx (.Compare a [op] [b] pos) ρ (b1 asB (b2 md m1 m2)) := by
  refine ⟨⟨fun pins s σ H Q I h => ?_⟩⟩
  have h2 := tT_of (t := fun σ H Q => tE W Wx ρ (b2 md m1 m2) σ H Q) h fun _ _ _ q => q
  refine wpAny_isTrue_Compare1 (thn (ha.p.run pins s σ H _ I (tX2_of h2)) fun v s1 ⟨x, H1, I1, r1, q1⟩ => thn (hb.p.run pins s1 σ H1 _ I1 q1) fun u s2 ⟨y, H2, I2, r2, B, μ, F, g, dx, dy, a, px, py, q⟩ =>
    thn (ho pins s2 σ H2 x y v u _ B μ F g dx dy I2 r1 r2 a px py q) fun c s3 ⟨z, H3, I3, r3, k, e, q3⟩ => ?_) hm
  subst e
  cases r3
  exact wpAny_truthy_bool ⟨H3, I3, q3⟩
def dIsB (neg : Bool) : D → D → M D
  | .bl i, .bl j => pure (.bl (neg? neg (decide (i = j))))
  | _, _ => stuck
theorem opD_isB : OpD W rIsB (dIsB false) := by
  intro B μ F H g x y dx dy Q Wx n gd rg px py q
  cases px <;> cases py <;> first | exact q.elim | exact ⟨_, _, rfl, rfl, Run.pure (a := D.bl _) q gd rg _ (.bl _)⟩
theorem opD_notB : OpD W rNotB (dIsB true) := by
  intro B μ F H g x y dx dy Q Wx n gd rg px py q
  cases px <;> cases py <;> first | exact q.elim | exact ⟨_, _, rfl, rfl, Run.pure (a := D.bl _) q gd rg _ (.bl _)⟩
theorem pd_isB (ha : PDe X W Wx a ρ m1) (hb : PDe X W Wx b ρ m2) : PDe X W Wx (.Compare a [.Is] [b] pos) ρ (b2 (dIsB false) m1 m2) := pd_cmp op_isBl opD_isB ha hb (nomark b)
theorem pd_notB (ha : PDe X W Wx a ρ m1) (hb : PDe X W Wx b ρ m2) : PDe X W Wx (.Compare a [.IsNot] [b] pos) ρ (b2 (dIsB true) m1 m2) := pd_cmp op_notBl opD_notB ha hb (nomark b)
theorem pt_isB (ha : PDe X W Wx a ρ m1) (hb : PDe X W Wx b ρ m2) : PDt X W Wx (.Compare a [.Is] [b] pos) ρ (b1 asB (b2 (dIsB false) m1 m2)) := pt_cmp op_isBl opD_isB ha hb (nomark b)
theorem pt_notB (ha : PDe X W Wx a ρ m1) (hb : PDe X W Wx b ρ m2) : PDt X W Wx (.Compare a [.IsNot] [b] pos) ρ (b1 asB (b2 (dIsB true) m1 m2)) := pt_cmp op_notBl opD_notB ha hb (nomark b)
def oIn (c0 : Str) (neg : Bool) (m : List D → M D) (g : List D → List D → List D) (x y : D) : M D := isO c0 (fun o => m (g [o, x] []) >>= asB >>= fun b => pure (.bl (neg? neg b))) y
theorem oIn_core {f : Addr} {m : List D → M D} {g : List D → List D → List D} (F1 : FnB X.prog X.w X.K X.mg X.base W k f m 2 [] g) (bd : Bd X k) (tk : Takes X Wx) {pins : List (Addr × Obj)} {s : Shared} {σ : L2.St} {H : Hp} {x : V} {v : Value} {ao : Addr} {Q : Value → Shared → Prop} {B : Addr → Prop} {μ : List Addr} {F : Hp} {g0 : GS} {dx dy : D} {R : Bool → Hp → Prop}
    (I : Inv X pins σ H s) (rx : RelV x v) (a : At W B μ F H g0 ρ σ) (px : Rep W μ F dx x) (py : Rep W μ F dy (.ref ao)) (q : Run W Wx σ.length B μ F H ((m (g [dy, dx] []) >>= asB) g0) fun b _ _ _ H' => R b H') (hQ : ∀ b s' H', Inv X pins σ H' s' → R b H' → Q (.bool b) s') :
    wpAny (model X.prog X.w) X.A (call (.ref f) [.ref ao, v]) Q X.xe s := by
  obtain ⟨fd, ps, n, gu, gV, F2, hb, hv, hr, hl⟩ := F1.ex
  refine thn (runG F2 bd tk I (us := [.ref ao, v]) (ks := []) (ws := []) (all := gu [.ref ao, v] []) (hb s [.ref ao, v] [] I.kIn rfl rfl) (hv [.ref ao, x] _ _ _ (.cons rfl (.cons rx .nil)) .nil) (Q := fun w H' => ∃ b, w = .bl b ∧ R b H')
    (spD_of (m := m) a (hr μ F [dy, dx] [] [.ref ao, x] [] (.cons py (.one px)) .nil) (hl [.ref ao, x] [] rfl rfl) ((Run.bind q fun _ z => z).mono (fun _ z => z) fun d g1 μ1 F1 H1 f1 r1 q1 w p => ?_))) fun u s1 ⟨w, H1, I1, rw', b, ew, qb⟩ => ?_
  · cases p with
    | bl b => exact ⟨b, rfl, Run.pure (a := b) q1 (a.gd.fu f1 fun _ z => z) r1⟩
    | _ => exact q1.elim
  · subst ew
    cases rw'
    exact hQ b s1 H1 I1 qb
theorem opX_in {c0 : Str} {f : Addr} {m : List D → M D} {g : List D → List D → List D} (F1 : FnB X.prog X.w X.K X.mg X.base W k f m 2 [] g) (bd : Bd X k) (tk : Takes X Wx) (hs : PySem.W.findIn X.K (.ref (W.ca c0)) "__contains__" = some (some (.ref f))) (hf : PySem.W.isFn X.K (.ref f) = true) :
    OpX X W Wx ρ (compareOp .In) (oIn c0 false m g) := by
  intro pins s σ H x y v u Q B μ F g0 dx dy I rx ry a px py q
  obtain ⟨ao, dxo, w, z, ey, ed, ea, rz, q2⟩ := isO_of py q
  subst ey
  cases ry
  obtain ⟨mA, O, _⟩ := ins_get I.hok (a.rg.sub _ _ ea)
  obtain ⟨od, J, _⟩ := O.look
  obtain ⟨mm, fr⟩ := I.fr
  refine PySem.W.in_K fr I.ok.mod.kin J hs hf (oIn_core F1 bd tk I rx a px py (R := fun b H' => Q (.bl b) H') ((Run.bind q2 fun _ z => z).mono (fun _ z => z) fun b g1 μ1 F1 H1 f1 r1 q1 => ?_) fun b s' H' I' qb => ?_)
  · exact Run.pure (a := D.bl _) q1 (a.gd.fu f1 fun _ z => z) r1 _ (.bl _)
  · exact wpAny_truthy_bool ⟨.bl b, H', I', rfl, qb⟩
theorem opX_notIn {c0 : Str} {f : Addr} {m : List D → M D} {g : List D → List D → List D} (F1 : FnB X.prog X.w X.K X.mg X.base W k f m 2 [] g) (bd : Bd X k) (tk : Takes X Wx) (hs : PySem.W.findIn X.K (.ref (W.ca c0)) "__contains__" = some (some (.ref f))) (hf : PySem.W.isFn X.K (.ref f) = true) :
    OpX X W Wx ρ (compareOp .NotIn) (oIn c0 true m g) := by
  intro pins s σ H x y v u Q B μ F g0 dx dy I rx ry a px py q
  obtain ⟨ao, dxo, w, z, ey, ed, ea, rz, q2⟩ := isO_of py q
  subst ey
  cases ry
  obtain ⟨mA, O, _⟩ := ins_get I.hok (a.rg.sub _ _ ea)
  obtain ⟨od, J, _⟩ := O.look
  obtain ⟨mm, fr⟩ := I.fr
  refine PySem.W.notIn_K fr I.ok.mod.kin J hs hf (oIn_core F1 bd tk I rx a px py (R := fun b H' => Q (.bl (!b)) H') ((Run.bind q2 fun _ z => z).mono (fun _ z => z) fun b g1 μ1 F1 H1 f1 r1 q1 => ?_) fun b s' H' I' qb => ?_)
  · exact Run.pure (a := D.bl _) q1 (a.gd.fu f1 fun _ z => z) r1 _ (.bl _)
  · exact wpAny_truthy_bool ⟨.bl (!b), H', I', rfl, qb⟩
section
variable {c0 : Str} {f : Addr} {m : List D → M D} {g : List D → List D → List D}
theorem pd_inO (F1 : FnB X.prog X.w X.K X.mg X.base W k f m 2 [] g) (bd : Bd X k) (tk : Takes X Wx) (hs : PySem.W.findIn X.K (.ref (W.ca c0)) "__contains__" = some (some (.ref f))) (hf : PySem.W.isFn X.K (.ref f) = true) (ha : PDe X W Wx a ρ m1) (hb : PDe X W Wx b ρ m2) (hm : behindInMarks .In b = false := by rfl) :
    PDe X W Wx (.Compare a [.In] [b] pos) ρ (b2 (oIn c0 false m g) m1 m2) := pdx_cmp (opX_in F1 bd tk hs hf) ha hb hm
theorem pd_notInO (F1 : FnB X.prog X.w X.K X.mg X.base W k f m 2 [] g) (bd : Bd X k) (tk : Takes X Wx) (hs : PySem.W.findIn X.K (.ref (W.ca c0)) "__contains__" = some (some (.ref f))) (hf : PySem.W.isFn X.K (.ref f) = true) (ha : PDe X W Wx a ρ m1) (hb : PDe X W Wx b ρ m2) (hm : behindInMarks .NotIn b = false := by rfl) :
    PDe X W Wx (.Compare a [.NotIn] [b] pos) ρ (b2 (oIn c0 true m g) m1 m2) := pdx_cmp (opX_notIn F1 bd tk hs hf) ha hb hm
theorem pt_inO (F1 : FnB X.prog X.w X.K X.mg X.base W k f m 2 [] g) (bd : Bd X k) (tk : Takes X Wx) (hs : PySem.W.findIn X.K (.ref (W.ca c0)) "__contains__" = some (some (.ref f))) (hf : PySem.W.isFn X.K (.ref f) = true) (ha : PDe X W Wx a ρ m1) (hb : PDe X W Wx b ρ m2) (hm : behindInMarks .In b = false := by rfl) :
    PDt X W Wx (.Compare a [.In] [b] pos) ρ (b1 asB (b2 (oIn c0 false m g) m1 m2)) := ptx_cmp (opX_in F1 bd tk hs hf) ha hb hm
theorem pt_notInO (F1 : FnB X.prog X.w X.K X.mg X.base W k f m 2 [] g) (bd : Bd X k) (tk : Takes X Wx) (hs : PySem.W.findIn X.K (.ref (W.ca c0)) "__contains__" = some (some (.ref f))) (hf : PySem.W.isFn X.K (.ref f) = true) (ha : PDe X W Wx a ρ m1) (hb : PDe X W Wx b ρ m2) (hm : behindInMarks .NotIn b = false := by rfl) :
    PDt X W Wx (.Compare a [.NotIn] [b] pos) ρ (b1 asB (b2 (oIn c0 true m g) m1 m2)) := ptx_cmp (opX_notIn F1 bd tk hs hf) ha hb hm
end
def UnX (X : Cx) (W : Wd) (Wx : WX) (ρ : Ro) (f : Value → Sem Value) (md : D → M D) : Prop :=
  ∀ (pins : List (Addr × Obj)) (s : Shared) (σ : L2.St) (H : Hp) (x : V) (v : Value) (Q : VK) (B : Addr → Prop) (μ : List Addr) (F : Hp) (g : GS) (dx : D), Inv X pins σ H s → RelV x v → At W B μ F H g ρ σ → Rep W μ F dx x →
    Run W Wx σ.length B μ F H (md dx g) (fun d _ μ' F' H' => ∀ v, Rep W μ' F' d v → Q v H') → wpAny (model X.prog X.w) X.A (f v) (EP X pins σ Q) X.xe s
theorem pdx_call1 {id : String} {x : Str} {md : D → M D} (ho : UnX X W Wx ρ (fun v => call (.builtin id) [v]) md) (hm : X.mg x = none) (hv : bootBuiltins x = some (.builtin id)) (h : PDe X W Wx e ρ me) (hg : Gl X x := by rfl) (hn : x ≠ "__name__" := by decide) (hdb : (x == ("__debug__" : Str)) = false := by decide)
    (he : starEach [e] X.env = (false, eval e X.env) :: starEach [] X.env := by rfl) (hpl : (backTo pos (starEach [] X.env)).any (·.1) = false := by rfl) : PDe X W Wx (.Call (.Name x p) [e] [] pos) ρ (me >>= md) := by
  refine ⟨⟨fun pins s σ H Q I q => ?_⟩⟩
  obtain ⟨B, μ, F, g, a, q⟩ := q
  refine wpAny_Call_Name_kw (ld_blt I hg hm hv ?_ hn hdb)
  refine PyProof.Rows.callWith_builtin1 (thn ((pa_cons h.p pa_nil he).run pos pins s σ H (fun vs H1 => ∃ x, vs = [x] ∧ ∃ B μ F g d, At W B μ F H1 g ρ σ ∧ Rep W μ F d x ∧ Run W Wx σ.length B μ F H1 (md d g) fun d _ μ' F' H' => ∀ v, Rep W μ' F' d v → Q v H') I ?_) fun us s1 ⟨vs, H1, I1, r1, x, ev, B1, μ1, F1, g1, d, a1, p1, q1⟩ => ?_) he hpl
  · exact ⟨B, μ, F, g, a, (Run.bind q fun _ z => z).mono (fun _ z => z) fun d g1 μ1 F1 H1 f1 r1 q1 v p => ⟨v, rfl, B, μ1, F1, g1, d, a.fu f1 (fun _ z => z) r1, p, q1⟩⟩
  · subst ev
    obtain ⟨u, rfl, ru⟩ := vals1 r1
    exact ho pins s1 σ H1 x u Q B1 μ1 F1 g1 d I1 ru a1 p1 q1
def oLen (c0 : Str) (m : List D → M D) (g : List D → List D → List D) : D → M D := isO c0 fun o => calm (m (g [o] [])) >>= fun d => match d with
  | .int n => if 0 ≤ n ∧ n < 2 ^ 63 then pure (.int n) else stuck
  | _ => stuck
theorem Bd.in1' (b : Bd X (k + 1)) : X.A.in1.guards = some [] := b.gd
theorem unX_len {c0 : Str} {f : Addr} {m : List D → M D} {g : List D → List D → List D} (F1 : FnB X.prog X.w X.K X.mg X.base W k f m 1 [] g) (bd : Bd X (k + 1)) (hs : PySem.W.findIn X.K (.ref (W.ca c0)) "__len__" = some (some (.ref f))) (hf : PySem.W.isFn X.K (.ref f) = true) :
    UnX X W Wx ρ (fun v => call (.builtin "len") [v]) (oLen c0 m g) := by
  intro pins s σ H x v Q B μ F g0 dx I rx a px q
  obtain ⟨fd, ps, n, gu, gV, F2, hb, hv, hr, hl⟩ := F1.ex
  obtain ⟨ao, dxo, w, z, ey, ed, ea, rz, q2⟩ := isO_of px q
  subst ey
  cases rx
  obtain ⟨mA, O, _⟩ := ins_get I.hok (a.rg.sub _ _ ea)
  obtain ⟨od, J, _⟩ := O.look
  obtain ⟨mm, fr⟩ := I.fr
  have q3 := (Run.bind (B' := B) q2 fun _ z => z)
  have sp : spD W n m (gV [.ref ao] []) H (fun w H' => ∃ i : Int, w = .int i ∧ (0 ≤ i ∧ i < 2 ^ 63) ∧ Q (.int i) H') (fun _ _ _ => False) :=
    spD_of (Wx := fun _ _ _ _ => False) (m := m) a (hr μ F [dx] [] [.ref ao] [] (.one px) .nil) (hl [.ref ao] [] rfl rfl) ((Run.calm (n' := σ.length) q3).mono (fun _ z => z) fun d g1 μ1 F1 H1 f1 r1 q1 w p => by
      cases p with
      | int i =>
        have q4 : Run W Wx σ.length B μ1 F1 H1 ((if 0 ≤ i ∧ i < 2 ^ 63 then pure (.int i) else stuck : M D) g1) (fun d _ μ' F' H' => ∀ v, Rep W μ' F' d v → Q v H') := q1
        by_cases c : 0 ≤ i ∧ i < 2 ^ 63
        · rw [if_pos c] at q4
          exact ⟨i, rfl, c, Run.pure (a := D.int i) q4 (a.gd.fu f1 fun _ z => z) r1 _ (.int i)⟩
        · rw [if_neg c] at q4
          exact q4.elim
      | _ => exact q1.elim)
  refine PySem.W.len_K fr I.ok.mod.kin J hs hf (wpAny_call (codeAny_mono (F2.run X.A.in1 X.stack s H ⟨[.ref ao], []⟩ (gu [.ref ao] []) (gV [.ref ao] []) _ (fun _ _ _ => False) bd.in1' bd.rm.in1 I.env0.in1 (hb s [.ref ao] [] I.kIn rfl rfl) (hv [.ref ao] _ _ _ (.cons rfl .nil) .nil) sp) fun r s' hq => ?_))
  cases r with
  | error er =>
    obtain ⟨_, _, _, _, _, _, _, _, _, _, _, _, z⟩ := hq
    exact z.elim
  | ok fl =>
    cases fl with
    | ret u =>
      obtain ⟨v, H', I3, rv, i, ev, hc, q5⟩ := I.after hq
      subst ev
      obtain ⟨t, rfl⟩ := rv
      exact ⟨hc, .int i, H', I3.tok _, ⟨_, rfl⟩, q5⟩
    | next => exact False.elim hq
    | brk => exact False.elim hq
    | cont => exact False.elim hq
def strsOf : List D → Option (List Str)
  | [] => some []
  | .str x :: ds => (match strsOf ds with
    | some xs => some (x :: xs)
    | none => none)
  | _ :: _ => none
theorem strsOf_eq : ∀ {ds : List D} {xs : List Str}, strsOf ds = some xs → ds = xs.map D.str
  | [], xs, h => by cases h; rfl
  | d :: ds, xs, h => by
    cases d with
    | str x =>
      have h2 : (match strsOf ds with
        | some xs => some (x :: xs)
        | none => none) = some xs := h
      cases e : strsOf ds with
      | none => rw [e] at h2; cases h2
      | some ys =>
        rw [e] at h2
        cases h2
        rw [strsOf_eq e]
        rfl
    | _ => cases h
def ixStr (xs : List D) (k : Str) : M D := match strsOf xs with
  | some ys => if k ∈ ys ∧ ys.length ≤ sizeLine then pure (.int (ys.idxOf k : Nat)) else stuck
  | none => stuck
def dIndex : D → D → M D
  | .tup xs, .str k => ixStr xs k
  | .lst xs, .str k => ixStr xs k
  | _, _ => stuck
def kIndex (me : M D) (d : D) : M D := match d with
  | .tup xs => me >>= fun y => dIndex (.tup xs) y
  | .lst xs => me >>= fun y => dIndex (.lst xs) y
  | _ => stuck
theorem ixStr_of {xs : List D} {k0 : Str} {μ : List Addr} {F H : Hp} {g : GS} {n : Nat} {B : Addr → Prop} {vs : List V} {Q : VK} (gd : Guard B F H) (rg : RG W g μ F H) (rs : Reps W μ F xs vs) (q : Run W Wx n B μ F H (ixStr xs k0 g) fun d _ μ' F' H' => ∀ v, Rep W μ' F' d v → Q v H') :
    ∃ ys : List Str, vs = ys.map V.str ∧ k0 ∈ ys ∧ ys.length ≤ sizeLine ∧ Q (.int (ys.idxOf k0 : Nat)) H := by
  have q2 : Run W Wx n B μ F H ((match strsOf xs with
  | some ys => if k0 ∈ ys ∧ ys.length ≤ sizeLine then pure (.int (ys.idxOf k0 : Nat)) else stuck
  | none => stuck : M D) g) (fun d _ μ' F' H' => ∀ v, Rep W μ' F' d v → Q v H') := q
  cases e : strsOf xs with
  | none => rw [e] at q2; exact q2.elim
  | some ys =>
    rw [e] at q2
    have q3 : Run W Wx n B μ F H ((if k0 ∈ ys ∧ ys.length ≤ sizeLine then pure (.int (ys.idxOf k0 : Nat)) else stuck : M D) g) (fun d _ μ' F' H' => ∀ v, Rep W μ' F' d v → Q v H') := q2
    by_cases c : k0 ∈ ys ∧ ys.length ≤ sizeLine
    · rw [if_pos c] at q3
      rw [strsOf_eq e] at rs
      exact ⟨ys, rs.strs, c.1, c.2, Run.pure (a := D.int _) q3 gd rg _ (.int _)⟩
    · rw [if_neg c] at q3
      exact q3.elim
theorem mt_index {K : PySem.W.Frag} (hK : K = X.K) : (∀ (pins : List (Addr × Obj)) (s : Shared) (σ : L2.St) (H : Hp) (a : Addr) (k0 : Str) (t : Tok) (ys : List Str) (Q : VK), L2.Inv X pins σ H s → SqT K H a (ys.map V.str) → k0 ∈ ys → Q (.int (ys.idxOf k0 : Nat)) H →
    wpAny (model X.prog X.w) X.A (call (.builtin "tuple.index") [.ref a, .str k0 t]) (EP X pins σ Q) X.xe s) ∧ ∀ (pins : List (Addr × Obj)) (s : Shared) (σ : L2.St) (H : Hp) (a : Addr) (k0 : Str) (t : Tok) (ys : List Str) (Q : VK), L2.Inv X pins σ H s → SqL K H a (ys.map V.str) → k0 ∈ ys → ys.length ≤ sizeLine → Q (.int (ys.idxOf k0 : Nat)) H →
    wpAny (model X.prog X.w) X.A (call (.builtin "list.index") [.ref a, .str k0 t]) (EP X pins σ Q) X.xe s := by
  subst hK
  refine ⟨fun pins s σ H a k0 t ys Q I h hk q => ?_, fun pins s σ H a k0 t ys Q I h hk hz q => ?_⟩
  · obtain ⟨its, rv, ⟨o, ho, hc, n, hd⟩, _⟩ := I.tuple h
    exact PySem.SeqAt.tuple_index_strs (vs := its) ⟨o, ho, hc, n, hd⟩ rv.strs hk ⟨.int _, H, I.tok _, ⟨_, rfl⟩, q⟩
  · obtain ⟨its, rv, ⟨o, n, ho, hc, hdn, hd⟩, _⟩ := I.list h
    exact PySem.SeqAt.list_index_strs (vs := its) ⟨o, ho, hc, n, hd⟩ rv.strs hz hk ⟨.int _, H, I.tok _, ⟨_, rfl⟩, q⟩
theorem pd_index {apos : Pos} (hK : W.K = X.K) (ho : PDe X W Wx o ρ mo) (he : PDe X W Wx e ρ me) (hbase : attributeBase o "index" X.env (eval o X.env) = eval o X.env := by rfl)
    (hfew : ((backTo pos (starEach [e] X.env)).all (fun x => !x.1) && (backToKw pos (keywordEach [] X.env)).all (fun x => x.1.isSome) && decide ([e].length + ([] : List Keyword).length + (if ([] : List Keyword).isEmpty then 0 else 1) < 30)) = true := by rfl)
    (hline : (apos.endLine == pos.line) = true := by rfl) (hs : starEach [e] X.env = (false, eval e X.env) :: starEach [] X.env := by rfl) : PDe X W Wx (.Call (.Attribute o "index" apos) [e] [] pos) ρ (mo >>= kIndex me) := by
  refine ⟨⟨fun pins s σ H Q I q => ?_⟩⟩
  obtain ⟨B, μ, F, g, a, q⟩ := q
  refine wpAny_Call_method_late hbase hfew hline rfl (thn (ho.p.run pins s σ H (fun x H1 => ∃ B μ F g d, At W B μ F H1 g ρ σ ∧ Rep W μ F d x ∧ Run W Wx σ.length B μ F H1 (kIndex me d g) fun d _ μ' F' H' => ∀ v, Rep W μ' F' d v → Q v H') I
    ⟨B, μ, F, g, a, (Run.bind q fun _ z => z).mono (fun _ z => z) fun d g1 μ1 F1 H1 f1 r1 q1 v p => ⟨B, μ1, F1, g1, d, a.fu f1 (fun _ z => z) r1, p, q1⟩⟩) fun v s1 ⟨x, H1, I1, rx, B1, μ1, F1, g1, d, a1, p1, q1⟩ => ?_)
  have hq : (Run W Wx σ.length B1 μ1 F1 H1 ((me >>= fun y => dIndex d y) g1) fun d _ μ' F' H' => ∀ v, Rep W μ' F' d v → Q v H') := by
    cases d <;> first | exact q1 | exact q1.elim
  have hA := (pa_cons he.p pa_nil hs).run pos pins s1 σ H1 (fun vs H2 => ∃ y, vs = [y] ∧ ∃ B μ F g dy, At W B μ F H2 g ρ σ ∧ Rep W μ F d x ∧ Rep W μ F dy y ∧ Run W Wx σ.length B μ F H2 (dIndex d dy g) fun d _ μ' F' H' => ∀ v, Rep W μ' F' d v → Q v H') I1
    ⟨B1, μ1, F1, g1, a1, (Run.bind hq fun _ z => z).mono (fun _ z => z) fun dy g2 μ2 F2 H2 f2 r2 q2 y py => ⟨y, rfl, B1, μ2, F2, g2, dy, a1.fu f2 (fun _ z => z) r2, p1.mono f2.grow f2.fro, py, q2⟩⟩
  rw [hs] at hA ⊢
  have fin : ∀ {id : String}, (∀ (y : V) (u : Value) (s2 : Shared) (H2 : Hp) (B : Addr → Prop) μ F g dy, L2.Inv X pins σ H2 s2 → L2.RelV y u → At W B μ F H2 g ρ σ → Rep W μ F d x → Rep W μ F dy y → (Run W Wx σ.length B μ F H2 (dIndex d dy g) fun d _ μ' F' H' => ∀ v, Rep W μ' F' d v → Q v H') →
      wpAny (model X.prog X.w) X.A (call (.builtin id) [v, u]) (EP X pins σ Q) X.xe s2) → wpAny (model X.prog X.w) X.A (callWith pos (.builtin id) [v] (backTo pos ((false, eval e X.env) :: starEach [] X.env)) (backToKw pos (keywordEach [] X.env))) (EP X pins σ Q) X.xe s1 := fun {id} h => by
    refine Calls.callWith_builtin (by rfl) (Calls.evalArgs_plain ?_)
    refine thn hA fun us s2 ⟨vs, H2, I2, r2, y, ev, B2, μ2, F2, g2, dy, a2, px, py, q2⟩ => ?_
    subst ev
    obtain ⟨u, rfl, ru⟩ := vals1 r2
    exact h y u s2 H2 B2 μ2 F2 g2 dy I2 ru a2 px py q2
  cases p1 with
  | @tup ao vs ds h rs =>
    cases rx
    obtain ⟨its, ob, n, rv, hob, hc, hd, hdn, _⟩ := tupS_at I1 (hK ▸ Same.tupS a1.rg.sub h)
    refine ⟨"tuple", _, PySem.F.plainAttrs_tuple, PySem.F.slot_tuple_index, PySem.F.type_tuple_index, ⟨ob, hob, hc⟩, ?_, fin fun y u s2 H2 B2 μ2 F2 g2 dy I2 ru a2 px py q2 => ?_⟩
    · intro z e
      cases e
      exact ⟨ob, hob, hdn⟩
    · cases px with
      | tup h2 rs2 =>
        cases py with
        | str k0 =>
          obtain ⟨t, rfl⟩ := ru
          obtain ⟨ys, e1, e2, e3, e4⟩ := ixStr_of a2.gd a2.rg rs2 q2
          subst e1
          exact (mt_index hK).1 pins s2 σ H2 ao k0 t ys Q I2 (Same.tup a2.rg.sub h2.sq) e2 e4
        | _ => exact q2.elim
  | @lst ao vs ds h rs =>
    cases rx
    obtain ⟨its, rv, ⟨ob, n, hob, hc, hdn, hd⟩, _⟩ := I1.list (SqL.of (K := X.K) (a1.rg.sub _ _ h))
    refine ⟨"list", _, PySem.F.plainAttrs_list, PySem.F.slot_list_index, PySem.F.type_list_index, ⟨ob, hob, hc⟩, ?_, fin fun y u s2 H2 B2 μ2 F2 g2 dy I2 ru a2 px py q2 => ?_⟩
    · intro z e
      cases e
      exact ⟨ob, hob, hdn⟩
    · cases px with
      | lst h2 rs2 =>
        cases py with
        | str k0 =>
          obtain ⟨t, rfl⟩ := ru
          obtain ⟨ys, e1, e2, e3, e4⟩ := ixStr_of a2.gd a2.rg rs2 q2
          subst e1
          exact (mt_index rfl).2 pins s2 σ H2 ao k0 t ys Q I2 (SqL.of (a2.rg.sub _ _ h2)) e2 e3 e4
        | _ => exact q2.elim
  | _ => exact q1.elim
end
end PD
namespace PD
open PySem PySem.Spec L2
open PyProof.Rows hiding St
section
variable {X : Cx} {W : Wd} {Wx : WX} {ρ : Ro} {a b e o : Expr} {m1 m2 me mo : M D} {mq : M (Bool × List D)} {p pos apos : Pos} {k : Nat}
def dJoin (a : Str) : D → M D := fun d => match d with
  | .lst xs => (match strsOf xs with
    | some ys => if (ys.map (·.length)).sum + ys.length * a.length ≤ 16777216 then pure (.str (Txt.join a ys)) else stuck
    | none => stuck)
  | .tup xs => (match strsOf xs with
    | some ys => if (ys.map (·.length)).sum + ys.length * a.length ≤ 16777216 then pure (.str (Txt.join a ys)) else stuck
    | none => stuck)
  | _ => stuck
def kJoin (me : M D) : D → M D
  | .str a => me >>= dJoin a
  | _ => stuck
theorem joined_of {a : Str} {xs : List D} {vs : List V} {n : Nat} {B : Addr → Prop} {μ : List Addr} {F H : Hp} {g : GS} {Q : VK} (gd : Guard B F H) (rg : RG W g μ F H) (rs : Reps W μ F xs vs)
    (q : Run W Wx n B μ F H ((match strsOf xs with
    | some ys => if (ys.map (·.length)).sum + ys.length * a.length ≤ 16777216 then pure (.str (Txt.join a ys)) else stuck
    | none => stuck : M D) g) fun d _ μ' F' H' => ∀ v, Rep W μ' F' d v → Q v H') : ∃ ys : List Str, vs = ys.map V.str ∧ (ys.map (·.length)).sum + ys.length * a.length ≤ 16777216 ∧ Q (.str (Txt.join a ys)) H := by
  cases e : strsOf xs with
  | none => rw [e] at q; exact q.elim
  | some ys =>
    rw [e] at q
    have q2 : Run W Wx n B μ F H ((if (ys.map (·.length)).sum + ys.length * a.length ≤ 16777216 then pure (.str (Txt.join a ys)) else stuck : M D) g) (fun d _ μ' F' H' => ∀ v, Rep W μ' F' d v → Q v H') := q
    by_cases c : (ys.map (·.length)).sum + ys.length * a.length ≤ 16777216
    · rw [if_pos c] at q2
      rw [strsOf_eq e] at rs
      exact ⟨ys, rs.strs, c, Run.pure (a := D.str _) q2 gd rg _ (.str _)⟩
    · rw [if_neg c] at q2
      exact q2.elim
theorem pd_join (hK : W.K = X.K) (ho : PDe X W Wx o ρ mo) (he : PDe X W Wx e ρ me) (hs : starEach [e] X.env = [(false, eval e X.env)] := by rfl) (hbase : attributeBase o "join" X.env (eval o X.env) = eval o X.env := by rfl) (hline : (apos.endLine == pos.line) = true := by rfl) :
    PDe X W Wx (.Call (.Attribute o "join" apos) [e] [] pos) ρ (mo >>= kJoin me) :=
  ⟨PEw (pe_join ho.p he.p hs hbase hline) fun σ H Q ⟨B, μ, F, g, a, q⟩ => ⟨B, μ, F, g, a, (Run.bind q fun _ z => z).mono (fun _ z => z) fun d g1 μ1 F1 H1 f1 r1 q1 v p1 => by
    have a1 := a.fu f1 (fun _ z => z) r1
    cases p1 with
    | str z =>
      refine ⟨⟨z, rfl⟩, B, μ1, F1, g1, a1, (Run.bind q1 fun _ z => z).mono (fun _ z => z) fun d2 g2 μ2 F2 H2 f2 r2 q2 v2 p2 => ?_⟩
      have a2 := a1.fu f2 (fun _ z => z) r2
      cases p2 with
      | lst h rs =>
        obtain ⟨ys, e1, e2, e3⟩ := joined_of a2.gd r2 rs q2
        subst e1
        exact ⟨z, _, ys, rfl, rfl, .inl (SqL.of (r2.sub _ _ h)), e2, e3⟩
      | tup h rs =>
        obtain ⟨ys, e1, e2, e3⟩ := joined_of a2.gd r2 rs q2
        subst e1
        exact ⟨z, _, ys, rfl, rfl, .inr (hK ▸ Same.tup r2.sub h.sq), e2, e3⟩
      | _ => exact q2.elim
    | _ => exact q1.elim⟩⟩
def kSplit (me : M D) : D → M (List D)
  | .str a => me >>= fun d => (match d with
    | .str b => if (b.length == 0) = false ∧ a.length + 2 ≤ sizeLine then pure ((Txt.split a b).map D.str) else stuck
    | _ => stuck)
  | _ => stuck
theorem pn_split (ho : PDe X W Wx o ρ mo) (he : PDe X W Wx e ρ me) (hs : starEach [e] X.env = [(false, eval e X.env)] := by rfl) (hbase : attributeBase o "split" X.env (eval o X.env) = eval o X.env := by rfl) (hline : (apos.endLine == pos.line) = true := by rfl) :
    PDn X W Wx (.Call (.Attribute o "split" apos) [e] [] pos) ρ (mo >>= kSplit me) :=
  ⟨PEw (pe_split ho.p he.p hs hbase hline) fun σ H Q ⟨B, μ, F, g, a, q⟩ => ⟨B, μ, F, g, a, (Run.bind q fun _ z => z).mono (fun _ z => z) fun d g1 μ1 F1 H1 f1 r1 q1 v p1 => by
    have a1 := a.fu f1 (fun _ z => z) r1
    cases p1 with
    | str z =>
      refine ⟨⟨z, rfl⟩, B, μ1, F1, g1, a1, (Run.bind q1 fun _ z => z).mono (fun _ z => z) fun d2 g2 μ2 F2 H2 f2 r2 q2 v2 p2 => ?_⟩
      have a2 := a1.fu f2 (fun _ z => z) r2
      cases p2 with
      | str y =>
        have q3 : Run W Wx σ.length B μ2 F2 H2 ((if (y.length == 0) = false ∧ z.length + 2 ≤ sizeLine then pure ((Txt.split z y).map D.str) else stuck : M (List D)) g2) (fun ds _ μ' F' H' => ∀ l vs, H l = none → H' l = some (.lst vs) → F' l = none → (∀ n : Nat, μ'[n]? ≠ some l) → Reps W μ' F' ds vs → Q (.ref l) H') := q2
        by_cases c : (y.length == 0) = false ∧ z.length + 2 ≤ sizeLine
        · rw [if_pos c] at q3
          exact ⟨z, y, rfl, rfl, c.1, c.2, fun p hp => Run.ownL q3 a2.gd a2.rg hp p _ (stay_none f1 (stay_none f2 hp)) upd_same (free_of a2.rg.sub hp) (a2.rg.notin hp) (Reps.ofStrs _)⟩
        · rw [if_neg c] at q3
          exact q3.elim
      | _ => exact q2.elim
    | _ => exact q1.elim⟩⟩
def fStr : List D → M D
  | [.int i] => if i.natAbs.log2 < 1920 then pure (.str (toString i)) else stuck
  | [.str x] => pure (.str x)
  | _ => stuck
theorem cd_str : CallD W (fun xs H Q => (∃ i, xs = [.int i] ∧ i.natAbs.log2 < 1920 ∧ Q (.str (toString i)) H) ∨ ∃ a, xs = [.str a] ∧ Q (.str a) H) fStr := by
  intro B μ F H g ds vs Q Wx n gd rg rs q
  cases rs with
  | nil => exact q.elim
  | cons p t =>
    cases t with
    | cons _ _ => exact (by cases p <;> exact q.elim)
    | nil =>
      cases p with
      | int i =>
        have q2 : Run W Wx n B μ F H ((if i.natAbs.log2 < 1920 then pure (.str (toString i)) else stuck : M D) g) (fun d _ μ' F' H' => ∀ v, Rep W μ' F' d v → Q v H') := q
        by_cases c : i.natAbs.log2 < 1920
        · rw [if_pos c] at q2
          exact .inl ⟨i, rfl, c, Run.pure q2 gd rg _ (.str _)⟩
        · rw [if_neg c] at q2
          exact q2.elim
      | str x => exact .inr ⟨x, rfl, Run.pure q gd rg _ (.str _)⟩
      | _ => exact q.elim
theorem pd_strOf (hm : X.mg "str" = none) (h : PDe X W Wx e ρ me) (hg : Gl X "str" := by rfl) (he : starEach [e] X.env = (false, eval e X.env) :: starEach [] X.env := by rfl) : PDe X W Wx (.Call (.Name "str" p) [e] [] pos) ρ (aCons me aNil D fStr) :=
  pd_callT (CallR.or call_str_int SkE.call_str_str) cd_str hm (da_cons h da_nil he) hg (by decide +kernel) (he := he)
def okRepr (d : D) : Bool := d.flat && d.py.showable && !d.py.hasDict && decide (d.py.shown.length ≤ sizeLine)
def fRepr (d : D) : M D := if okRepr d = true then pure (.str d.py.shown) else stuck
theorem unX_repr (hK : W.K = X.K) (bd : Bd X k) : UnX X W Wx ρ (fun v => call (.builtin "repr") [v]) fRepr := by
  intro pins s σ H x v Q B μ F g dx I rx a px q
  have q2 : Run W Wx σ.length B μ F H ((if okRepr dx = true then pure (.str dx.py.shown) else stuck : M D) g) (fun d _ μ' F' H' => ∀ v, Rep W μ' F' d v → Q v H') := q
  by_cases c : okRepr dx = true
  · rw [if_pos c] at q2
    have qq : Q (.str dx.py.shown) H := Run.pure (a := D.str _) q2 a.gd a.rg _ (.str _)
    unfold okRepr D.flat at c
    simp only [Bool.and_eq_true, decide_eq_true_eq, Bool.not_eq_true'] at c
    obtain ⟨⟨⟨⟨⟨c1, c2⟩, c3⟩, c4⟩, c5⟩, c6⟩ := c
    obtain ⟨as, rd⟩ := Rep.reads I a.rg.sub hK px c1 c2 rx
    have un := bd.rm.units
    cases px with
    | non => cases rx; exact PySem.P.repr_of_none ⟨.str _, H, I.tok _, ⟨_, rfl⟩, qq⟩
    | bl b => cases rx; exact PySem.P.repr_of_bool ⟨.str _, H, I.tok _, ⟨_, rfl⟩, qq⟩
    | int i =>
      obtain ⟨t, rfl⟩ := rx
      exact PySem.P.repr_of_int (by simpa [D.py, PyData.showable] using c4) ⟨.str _, H, I.tok _, ⟨_, rfl⟩, qq⟩
    | str z =>
      obtain ⟨t, rfl⟩ := rx
      exact PySem.P.repr_of_str ⟨.str _, H, I.tok _, ⟨_, rfl⟩, qq⟩ c6
    | tup h rs =>
      cases rx
      exact PySem.repr_of_reads' rd c4 (fun e => by rw [c5] at e; cases e) bd.gd (by omega) (fun _ _ e => e) (fun h' u tk hk => ⟨.str _, H, I.kept (t' := tk) hk, ⟨_, rfl⟩, qq⟩) c6
    | lst h rs =>
      cases rx
      exact PySem.repr_of_reads' rd c4 (fun e => by rw [c5] at e; cases e) bd.gd (by omega) (fun _ _ e => e) (fun h' u tk hk => ⟨.str _, H, I.kept (t' := tk) hk, ⟨_, rfl⟩, qq⟩) c6
    | scr h rs =>
      cases rx
      exact PySem.repr_of_reads' rd c4 (fun e => by rw [c5] at e; cases e) bd.gd (by omega) (fun _ _ e => e) (fun h' u tk hk => ⟨.str _, H, I.kept (t' := tk) hk, ⟨_, rfl⟩, qq⟩) c6
    | dct _ _ => cases c2
    | obj _ _ => cases c1
    | id _ => cases c1
  · rw [if_neg c] at q2
    exact q2.elim
theorem pd_repr (hK : W.K = X.K) (bd : Bd X k) (hm : X.mg "repr" = none) (h : PDe X W Wx e ρ me) (hg : Gl X "repr" := by rfl) (he : starEach [e] X.env = (false, eval e X.env) :: starEach [] X.env := by rfl) (hpl : (backTo pos (starEach [] X.env)).any (·.1) = false := by rfl) :
    PDe X W Wx (.Call (.Name "repr" p) [e] [] pos) ρ (me >>= fRepr) := pdx_call1 (unX_repr hK bd) hm (by decide +kernel) h hg (by decide) (by decide) he hpl
def dRev : D → M D
  | .tup xs => pure (.tup xs.reverse)
  | .lst xs => pure (.lst xs.reverse)
  | .scr xs => pure (.lst xs.reverse)
  | _ => stuck
theorem pd_rev (hK : W.K = X.K) {j : Nat} {q1 q2 q3 : Pos} (h : PDe X W Wx e ρ me) : PDe X W Wx (.Subscript e (.Slice none none (some (.UnaryOp .USub (.Constant (.int 1) j q1) q2)) q3) pos) ρ (me >>= dRev) :=
  ⟨PEw (pe_revZ h.p) fun σ H Q ⟨B, μ, F, g, a, q⟩ => ⟨B, μ, F, g, a, (Run.bind q fun _ z => z).mono (fun _ z => z) fun d g1 μ1 F1 H1 f1 r1 q1 v p1 => by
    have a1 := a.fu f1 (fun _ z => z) r1
    cases p1 with
    | tup h rs => exact ⟨_, _, rfl, .inl ⟨hK ▸ Same.tup r1.sub h.sq, fun p o hp ho => Run.laid q1 a1.gd a1.rg hp _ (.newTup ho a1.rg.sub hp rs.reverse)⟩⟩
    | lst h rs => exact ⟨_, _, rfl, .inr ⟨SqL.of (r1.sub _ _ h), fun p hp => Run.laid q1 a1.gd a1.rg hp _ (.newLst a1.rg.sub hp rs.reverse)⟩⟩
    | scr h rs => exact ⟨_, _, rfl, .inr ⟨hK ▸ r1.sub.seq h, fun p hp => Run.laid q1 a1.gd a1.rg hp _ (.newLst a1.rg.sub hp rs.reverse)⟩⟩
    | _ => exact q1.elim⟩⟩
end
end PD
namespace PD
open PySem PySem.Spec L2
open PyProof.Rows hiding St
open PySem.W (EachIs)
def leD (a b : D) : Bool := PySem.W.dataLe false D.py a b
def sortD (ds : List D) : List D := ds.mergeSort leD
def D.tup1 : D → Bool
  | .tup (_ :: _) => true
  | _ => false
def D.noTup : D → Bool
  | .tup _ => false
  | .non => false
  | _ => true
def okSort (ds : List D) : Bool := ds.all D.flat && (ds.all fun a => ds.all fun b => PySem.W.alike a.py b.py) && (ds.all D.tup1 || ds.all D.noTup) && decide (ds.length ≤ sizeLine)
theorem noTup_py : ∀ (d : D), d.noTup = true → d.flat = true → d.py ≠ .none ∧ ∀ xs, d.py ≠ .tuple xs
  | .bl _, _, _ => ⟨(fun e => by simp [D.py] at e), fun xs e => by simp [D.py] at e⟩
  | .int _, _, _ => ⟨(fun e => by simp [D.py] at e), fun xs e => by simp [D.py] at e⟩
  | .str _, _, _ => ⟨(fun e => by simp [D.py] at e), fun xs e => by simp [D.py] at e⟩
  | .lst _, _, _ => ⟨(fun e => by simp [D.py] at e), fun xs e => by simp [D.py] at e⟩
  | .scr _, _, _ => ⟨(fun e => by simp [D.py] at e), fun xs e => by simp [D.py] at e⟩
  | .dct _ _, _, _ => ⟨(fun e => by simp [D.py] at e), fun xs e => by simp [D.py] at e⟩
  | .non, z, _ => by simp [D.noTup] at z
  | .tup _, z, _ => by simp [D.noTup] at z
  | .obj _ _, _, z => by simp [D.flat, D.dat] at z
  | .id _, _, z => by simp [D.flat, D.dat] at z
theorem each_of {X : Cx} {W : Wd} {pins : List (Addr × Obj)} {σ : L2.St} {H F : Hp} {s : Shared} {μ : List Addr} (I : L2.Inv X pins σ H s) (hF : Same F H) (hK : W.K = X.K) : ∀ {ds : List D} {vs : List V} {us : List Value}, Reps W μ F ds vs → Vals vs us → datAll ds = true → PyData.plainAll (pyAll ds) = true →
    EachIs (fun u (b : D × V) => (RelV b.2 u ∧ Rep W μ F b.1 b.2) ∧ ∃ as, Reads s.heap u b.1.py as) us (ds.zip vs)
  | _, _, _, .nil, r, _, _ => by cases r; exact .nil
  | _, _, _, .cons q t, r, hd, hp => by
    cases r with
    | cons r1 r2 =>
      simp only [datAll, Bool.and_eq_true] at hd
      simp only [pyAll, PyData.plainAll, Bool.and_eq_true] at hp
      exact .cons ⟨⟨r1, q⟩, Rep.reads I hF hK q hd.1 hp.1 r1⟩ (each_of I hF hK t r2 hd.2 hp.2)
theorem each_vals {W : Wd} {μ : List Addr} {F : Hp} : ∀ {us : List Value} {bs : List (D × V)}, EachIs (fun u (b : D × V) => RelV b.2 u ∧ Rep W μ F b.1 b.2) us bs → Vals (bs.map (·.2)) us ∧ Reps W μ F (bs.map (·.1)) (bs.map (·.2))
  | _, _, .nil => ⟨.nil, .nil⟩
  | _, _, .cons h t => ⟨.cons h.1 (each_vals t).1, .cons h.2 (each_vals t).2⟩
theorem flat_all {ds : List D} (h : ds.all D.flat = true) : datAll ds = true ∧ PyData.plainAll (pyAll ds) = true ∧ ∀ d ∈ ds, d.py.depth ≤ 40 := by
  induction ds with
  | nil => exact ⟨rfl, rfl, fun d hd => by cases hd⟩
  | cons d ds ih =>
    rw [List.all_cons, Bool.and_eq_true] at h
    obtain ⟨h1, h2⟩ := h
    unfold D.flat at h1
    rw [Bool.and_eq_true, Bool.and_eq_true, decide_eq_true_eq] at h1
    obtain ⟨i1, i2, i3⟩ := ih h2
    refine ⟨by rw [datAll, h1.1.1, i1]; rfl, by rw [pyAll, PyData.plainAll, h1.1.2, i2]; rfl, fun e he => ?_⟩
    rcases List.mem_cons.mp he with z | z
    · rw [z]; exact h1.2
    · exact i3 e z
def rSort (W : Wd) (K : PySem.W.Frag) : List V → Hp → VK → Prop := fun xs H Q => ∃ (p : Addr) (ds : List D) (vs : List V) (μ : List Addr) (F : Hp), xs = [.ref p] ∧ Same F H ∧ Reps W μ F ds vs ∧ SqL K H p vs ∧ okSort ds = true ∧ ∀ ws l, Reps W μ F (sortD ds) ws → H l = none → Q (.ref l) (upd H l (.lst ws))
theorem call_sorted {X : Cx} {W : Wd} {k : Nat} (hK : W.K = X.K) (bd : Bd X k) : CallR X (.builtin "sorted") (rSort W X.K) := by
  intro pins s σ H xs us Q I r h
  obtain ⟨p, ds, vs, μ, F, rfl, sub, rs, hl, ok, q⟩ := h
  obtain ⟨u, rfl, ru⟩ := vals1 r
  cases ru
  obtain ⟨its, rv, pl, hz⟩ := I.list hl
  unfold okSort at ok
  simp only [Bool.and_eq_true, decide_eq_true_eq] at ok
  obtain ⟨⟨⟨o1, o2⟩, o3⟩, o4⟩ := ok
  obtain ⟨f1, f2, f3⟩ := flat_all o1
  have e := each_of I sub hK rs rv f1 f2
  have hlen := rs.length
  have hfst : (ds.zip vs).map (·.1) = ds := List.map_fst_zip (Nat.le_of_eq hlen)
  have hin : ∀ b : D × V, b ∈ ds.zip vs → b.1 ∈ ds := fun b hb => (List.of_mem_zip (show (b.1, b.2) ∈ ds.zip vs from hb)).1
  have hal : PySem.W.AllAlike ((ds.zip vs).map fun b => b.1.py) := by
    intro d hd d' hd'
    obtain ⟨b, hb, rfl⟩ := List.mem_map.mp hd
    obtain ⟨b', hb', rfl⟩ := List.mem_map.mp hd'
    exact List.all_eq_true.mp (List.all_eq_true.mp o2 _ (hin b hb)) _ (hin b' hb')
  have hk : PySem.W.Sortable ((ds.zip vs).map fun b => b.1.py) := by
    rw [Bool.or_eq_true] at o3
    rcases o3 with o3 | o3
    · refine .inl fun d hd => ?_
      obtain ⟨b, hb, rfl⟩ := List.mem_map.mp hd
      have z := List.all_eq_true.mp o3 _ (hin b hb)
      cases hb1 : b.1 with
      | tup xs =>
        rw [hb1] at z
        cases xs with
        | nil => cases z
        | cons x xs => exact ⟨x.py, pyAll xs, rfl⟩
      | _ => rw [hb1] at z; cases z
    · refine .inr fun d hd => ?_
      obtain ⟨b, hb, rfl⟩ := List.mem_map.mp hd
      have z := List.all_eq_true.mp o3 _ (hin b hb)
      have dt := List.all_eq_true.mp o1 _ (hin b hb)
      exact noTup_py b.1 z dt
  have un := bd.rm.units
  have hb : ∀ b : D × V, b ∈ ds.zip vs → X.A.units + 2 + b.1.py.depth < cLine := fun b hb => by
    have := f3 b.1 (hin b hb)
    omega
  refine PySem.W.sorted_data (l := p) (vs := its) (bs := ds.zip vs) (enc := fun b : D × V => b.1.py) (R := fun u (b : D × V) => RelV b.2 u ∧ Rep W μ F b.1 b.2) pl.isList (e.mono fun _ _ z => z.1) (e.mono fun _ _ z => z.2) hal hk (by rw [List.length_zip, hlen, Nat.min_self]; exact hz) hb fun out ho he => ?_
  obtain ⟨hv, hr⟩ := each_vals he
  have esort : ((ds.zip vs).mergeSort (PySem.W.dataLe false fun b : D × V => b.1.py)).map (·.1) = sortD ds := by
    unfold sortD
    rw [List.map_mergeSort (r := PySem.W.dataLe false fun b : D × V => b.1.py) (s := leD) (f := fun b : D × V => b.1) (fun _ _ _ _ => rfl), hfst]
  rw [esort] at hr
  obtain ⟨n, hat⟩ := PyProof.Rows.sortedAll_at s.heap its (List.toArray out)
  have hn : H (s.heap.objs.size + 1) = none := I.hok.fresh (Nat.le_succ _)
  refine ⟨.ref (s.heap.objs.size + 1), _, I.laid (t' := s.toks) (o := .lst (((ds.zip vs).mergeSort (PySem.W.dataLe false fun b : D × V => b.1.py)).map (·.2))) (fun b o e => PyProof.Rows.sortedAll_old e) (Nat.le_succ _) ⟨?_, out, n, hv, hat⟩, rfl, q _ _ hr hn⟩
  have := hv.length
  rw [this, ho, List.length_zip, hlen, Nat.min_self]
  exact hz
def insD (a : D) : List D → List D
  | [] => [a]
  | b :: l => if leD a b = true then a :: b :: l else b :: insD a l
def sortF : List D → List D
  | [] => []
  | a :: l => insD a (sortF l)
theorem leD_total : PySem.W.TotalLe leD := PySem.W.sortLe_total (PyProof.Rows.listOrd PyProof.Rows.itemOrd) false fun b : D => PySem.W.keyToks b.py
theorem insD_mid (a : D) (l₂ : List D) (h2 : ∀ b ∈ l₂, leD a b = true) : ∀ l₁ : List D, (∀ b ∈ l₁, (!leD a b) = true) → insD a (l₁ ++ l₂) = l₁ ++ a :: l₂
  | [], _ => by
    cases l₂ with
    | nil => rfl
    | cons b l =>
      show insD a (b :: l) = _
      rw [insD, if_pos (h2 b (List.mem_cons_self ..))]
      rfl
  | b :: l, h => by
    have hb : leD a b = false := by simpa using h b (List.mem_cons_self ..)
    show insD a (b :: (l ++ l₂)) = _
    rw [insD, if_neg (by rw [hb]; simp), insD_mid a l₂ h2 l fun c hc => h c (List.mem_cons_of_mem _ hc)]
    rfl
theorem sortD_eq : ∀ ds : List D, sortD ds = sortF ds
  | [] => by unfold sortD sortF; simp
  | a :: l => by
    have T := leD_total
    obtain ⟨l₁, l₂, e1, e2, h1⟩ := List.mergeSort_cons (le := leD) T.trans (fun a b => Bool.or_eq_true_iff.mpr (T.total a b)) a l
    have so : List.Pairwise (fun a b => leD a b = true) ((a :: l).mergeSort leD) := List.pairwise_mergeSort T.trans (fun a b => Bool.or_eq_true_iff.mpr (T.total a b)) (a :: l)
    rw [e1] at so
    have h2 : ∀ b ∈ l₂, leD a b = true := (List.pairwise_cons.mp (List.pairwise_append.mp so).2.1).1
    show (a :: l).mergeSort leD = insD a (sortF l)
    rw [← sortD_eq l, e1]
    show _ = insD a (l.mergeSort leD)
    rw [e2, insD_mid a l₂ h2 l₁ h1]
def qSort (t : Bool × List D) : M (List D) := if t.1 = false ∧ okSort t.2 = true then pure (sortF t.2) else stuck
section
variable {X : Cx} {W : Wd} {Wx : WX} {ρ : Ro} {a b e o : Expr} {m1 m2 me mo : M D} {mq : M (Bool × List D)} {p pos apos : Pos} {k : Nat}
theorem pn_sorted (hK : W.K = X.K) (bd : Bd X k) (hm : X.mg "sorted" = none) (h : PDq X W Wx e ρ mq) (hg : Gl X "sorted" := by rfl) (he : starEach [e] X.env = (false, eval e X.env) :: starEach [] X.env := by rfl) : PDn X W Wx (.Call (.Name "sorted" p) [e] [] pos) ρ (b1 qSort mq) :=
  ⟨PEw (pe_callB (call_sorted hK bd) hg hm (by decide +kernel) (pa_cons h.p pa_nil he) (he := he)) fun σ H Q ⟨B, μ, F, g, a, q⟩ => ⟨B, μ, F, g, a, (Run.bind q fun _ z => z).mono (fun _ z => z) fun t g1 μ1 F1 H1 f1 r1 q1 v pq => by
    have a1 := a.fu f1 (fun _ z => z) r1
    have q2 : Run W Wx σ.length B μ1 F1 H1 ((if t.1 = false ∧ okSort t.2 = true then pure (sortD t.2) else stuck : M (List D)) g1) (fun ds _ μ' F' H' => ∀ l vs, H l = none → H' l = some (.lst vs) → F' l = none → (∀ n : Nat, μ'[n]? ≠ some l) → Reps W μ' F' ds vs → Q (.ref l) H') := by
      rw [sortD_eq]
      exact q1
    by_cases c : t.1 = false ∧ okSort t.2 = true
    · rw [if_pos c] at q2
      obtain ⟨l, vs, e, rs, kk⟩ := pq
      rw [c.1] at kk
      have ks : SqL X.K H1 l vs := by
        rcases (show SqL W.K F1 l vs ∨ _ from kk) with z | z
        · exact r1.sub.seq (hK ▸ z)
        · exact SqL.of z.1
      exact ⟨l, t.2, vs, μ1, F1, by rw [e], r1.sub, rs, ks, c.2, fun ws l' hw hl' => Run.ownL q2 a1.gd a1.rg hl' l' ws (stay_none f1 hl') upd_same (free_of a1.rg.sub hl') (a1.rg.notin hl') hw⟩
    · rw [if_neg c] at q2
      exact q2.elim⟩⟩
end
theorem EqGives.str (x y : Str) (t u : Tok) : MeetsSeq.EqGives (.str x t) (.str y u) (x == y) := fun prog w A E s Q h => SeqAt.EqAt.str_str (A := A) (s := s) x t y u prog w E Q h
def rRemS : V → List V → Hp → VK → Prop := fun x xs H Q => ∃ (l : Addr) (ys : List Str) (z : Str), x = .ref l ∧ xs = [.str z] ∧ H l = some (.lst (ys.map V.str)) ∧ z ∈ ys ∧ Q .non (upd H l (.lst ((ys.erase z).map V.str)))
def eqS (z : Str) : Value → Bool
  | .str x _ => x == z
  | _ => false
theorem first_str : ∀ {ns : List Str} {z : Str}, z ∈ ns → ∃ j, ns[j]? = some z ∧ (∀ i, i < j → ns[i]? ≠ some z) ∧ ns.eraseIdx j = ns.erase z
  | [], z, h => by cases h
  | a :: r, z, h => by
    by_cases e : a = z
    · exact ⟨0, by rw [e]; rfl, fun i hi => absurd hi (Nat.not_lt_zero _), by rw [e, List.erase_cons_head]; rfl⟩
    · have hr : z ∈ r := by
        rcases List.mem_cons.mp h with q | q
        · exact absurd q.symm e
        · exact q
      obtain ⟨j, h2, h3, h4⟩ := first_str hr
      refine ⟨j + 1, h2, fun i hi => ?_, ?_⟩
      · cases i with
        | zero => exact fun q => e (Option.some.inj q)
        | succ i => exact h3 i (Nat.lt_of_succ_lt_succ hi)
      · rw [List.erase_cons_tail (by rw [beq_iff_eq]; exact e), ← h4]
        rfl
theorem map_eraseStr : ∀ (ns : List Str) (j : Nat), (ns.map V.str).eraseIdx j = (ns.eraseIdx j).map V.str
  | [], _ => rfl
  | _ :: _, 0 => rfl
  | n :: r, j + 1 => by
    show V.str n :: (r.map V.str).eraseIdx j = V.str n :: (r.eraseIdx j).map V.str
    rw [map_eraseStr r j]
section
variable {X : Cx}
theorem strs_get {us : List Value} {ys : List Str} (r : Vals (ys.map V.str) us) {j : Nat} {z : Str} (h : ys[j]? = some z) : ∃ t, us[j]? = some (.str z t) := by
  obtain ⟨w, e1, t, e2⟩ := r.get (i := j) (x := V.str z) (by rw [List.getElem?_map, h]; rfl)
  exact ⟨t, by rw [e1, e2]⟩
theorem mt_removeS : MtM X "list.remove" rRemS := by
  intro pins s σ H x xs v us Q I rx rxs h
  obtain ⟨l, ys, z, rfl, rfl, hH, hz, q⟩ := h
  cases rx
  obtain ⟨u, rfl, ru⟩ := rxs.one
  obtain ⟨t, rfl⟩ := ru
  obtain ⟨zl, its, n, r, hl, e⟩ := I.lstM hH
  obtain ⟨j, hj, hno, he⟩ := first_str hz
  rw [List.length_map] at hl zl
  have hjn : j < ys.length := (List.getElem?_eq_some_iff.mp hj).1
  have hjl : j < its.toArray.size := by rw [List.size_toArray]; omega
  have eg : ∀ y, y ∈ its.toArray → MeetsSeq.EqGives y (.str z t) (eqS z y) := by
    intro y hy
    have hy2 : y ∈ its := by simpa using hy
    obtain ⟨i, hi⟩ := List.getElem?_of_mem hy2
    have hin : i < ys.length := by
      have := (List.getElem?_eq_some_iff.mp hi).1
      omega
    obtain ⟨t2, e2⟩ := strs_get r (List.getElem?_eq_getElem hin)
    rw [hi] at e2
    cases e2
    exact EqGives.str _ _ _ _
  refine call_meets PySem.F.slot_list_remove ⟨_, e, rfl⟩ PySem.F.entry_list_remove (PySem.F.args_list_remove_2 _ _) (MeetsSeq.list_remove l its.toArray n (.str z t) (eqS z) eg j hjl ?_ ?_ (by rw [List.size_toArray]; omega)) ⟨e, ?_⟩
  · obtain ⟨tj, hjt⟩ := strs_get r hj
    obtain ⟨h1, h2⟩ := List.getElem?_eq_some_iff.mp hjt
    have e1 : its.toArray[j] = .str z tj := by simpa using h2
    rw [e1]
    exact beq_self_eq_true z
  · intro m hm hmj
    have hmn : m < ys.length := by omega
    obtain ⟨tm, hmt⟩ := strs_get r (List.getElem?_eq_getElem hmn)
    obtain ⟨h1, h2⟩ := List.getElem?_eq_some_iff.mp hmt
    have e1 : its.toArray[m] = .str ys[m] tm := by simpa using h2
    rw [e1]
    refine beq_eq_false_iff_ne.mpr fun e2 => hno m hmj ?_
    rw [List.getElem?_eq_getElem hmn, e2]
  · have rr := r.eraseIdx j
    rw [map_eraseStr, he] at rr
    refine ⟨.non, _, I.lset (its' := its.eraseIdx j) (t' := s.toks) hH e ?_ rr ?_, rfl, q⟩
    · show its.toArray.eraseIdxIfInBounds j = (its.eraseIdx j).toArray
      rw [List.eraseIdxIfInBounds_toArray]
    · rw [List.length_map]
      exact Nat.le_trans (List.length_erase_le) zl
end
section
variable {X : Cx} {W : Wd} {Wx : WX} {ρ : Ro} {S : Type} {mk : S → Ro} {rest : List Stmt} {e e2 : Expr} {m m2 : M D} {p p2 pos pos2 apos apos2 spos : Pos} {x y : Str} {xs ys : List D}
abbrev LM (X : Cx) (x : Str) (i : Nat) (id : String) (name : Str) (pos apos p : Pos) (es : List Expr) (t : TA) : Prop := ∀ {r : V → List V → Hp → VK → Prop}, MtR X id r → PE X (.Call (.Attribute (.Name x p) name apos) es [] pos) (tBM X.K "list" r (tVar i) t)
theorem AtS.ownL {B : Addr → Prop} {μ : List Addr} {F H : Hp} {g : GS} {σ : L2.St} {i : Nat} (a : AtS W B μ F H g ρ σ) (ei : ρ[i]? = some (.ol xs)) : ∃ l vs, σ[i]? = some (some (.ref l)) ∧ H l = some (.lst vs) ∧ F l = none ∧ (∀ n : Nat, μ[n]? ≠ some l) ∧ Reps W μ F xs vs := by
  have il : i < σ.length := by
    rw [← a.rel.len]
    exact (List.getElem?_eq_some_iff.mp ei).1
  obtain ⟨l, vs, e0, e1, e2, nm, r⟩ := a.rel.at_ i _ _ ei (List.getElem?_eq_getElem il)
  exact ⟨l, vs, by rw [List.getElem?_eq_getElem il, e0], e1, e2, nm, r⟩
theorem AtS.putL {B : Addr → Prop} {μ : List Addr} {F H : Hp} {g : GS} {σ : L2.St} {i : Nat} {l : Addr} {vs ws : List V} (a : AtS W B μ F H g ρ σ) (ei : ρ[i]? = some (.ol xs)) (es : σ[i]? = some (some (.ref l))) (r : Reps W μ F ys ws) :
    Fu B μ F H μ F (upd H l (.lst ws)) ∧ AtS W B μ F (upd H l (.lst ws)) g (ρ.set i (.ol ys)) σ := by
  obtain ⟨l', vs', e0, e1, e2, nm, r'⟩ := a.ownL ei
  rw [es] at e0
  cases e0
  exact a.write (y := .ol ys) (o := .lst ws) ei rfl rfl es ⟨l, ws, rfl, upd_same, e2, nm, r⟩
theorem Reps.last {μ : List Addr} {F : Hp} {ds : List D} {vs : List V} {d : D} (r : Reps W μ F ds vs) (h : ds[ds.length - 1]? = some d) : ∃ v, vs[vs.length - 1]? = some v ∧ Rep W μ F d v ∧ Reps W μ F ds.dropLast vs.dropLast := by
  obtain ⟨v, e, p⟩ := r.get h
  rw [r.length] at e
  refine ⟨v, e, p, ?_⟩
  rw [List.dropLast_eq_take, List.dropLast_eq_take, r.length]
  exact r.take _
def mPop (xs : List D) (k : D → M (Fl S)) : M (Fl S) := match xs[xs.length - 1]? with
  | some d => k d
  | none => stuck
theorem ds_setPop (i j : Nat) {k : D → M (Fl S)} (hij : i ≠ j) (ei : ρ[i]? = some (.ol xs)) (hN : X.N.Nodup) (hr : ∀ d, PDs X W Wx rest ((ρ.set i (.ol xs.dropLast)).set j (.d d)) mk (k d))
    (hb : ∀ {r : V → List V → Hp → VK → Prop}, MtR X "list.pop" r → PE X (.Call (.Attribute (.Name x p) "pop" apos) [] [] pos) (tBM0 X.K "list" r (tVar i)))
    (hi : X.N[j]? = some y := by rfl) (hx : Loc X.env.scope y := by first | exact .inl rfl | exact .inr rfl) (hs : swapsWith (.Call (.Attribute (.Name x p) "pop" apos) [] [] pos) (some (.Name y p2)) spos.line X.env = pure false := by rfl) (hf : X.fn y = true ∨ X.env.scope.names.lookup y = some .local := by first | exact .inl rfl | exact .inr rfl) :
    PDs X W Wx (.Assign [.Name y p2] (.Call (.Attribute (.Name x p) "pop" apos) [] [] pos) spos :: rest) ρ mk (mPop xs k) := by
  refine ⟨PSsw (pss_cons (ps_set hN hi hx (hb mt_pop) hs (hf := hf)) (u := fun D σ H => ∃ d, tS W Wx ((ρ.set i (.ol xs.dropLast)).set j (.d d)) mk (k d) D σ H) ⟨fun pins s σ H D I ⟨c, q⟩ => (hr c).p.run pins s σ H D I q⟩) ?_⟩
  intro D0 σ H ⟨B, μ, F, g, a, q⟩
  obtain ⟨l, vs, es, e1, e2, nm, r⟩ := a.ownL ei
  have q2 : Run W Wx σ.length B μ F H ((match xs[xs.length - 1]? with
    | some d => k d
    | none => stuck : M (Fl S)) g) (EndQ W σ.length B D0 mk) := q
  cases hd : xs[xs.length - 1]? with
  | none => rw [hd] at q2; exact q2.elim
  | some d =>
    rw [hd] at q2
    obtain ⟨v, ev, pv, rl⟩ := r.last hd
    obtain ⟨f2, a2⟩ := a.putL (vs := vs) ei es rl
    refine ⟨.ref l, es, .inl ⟨rfl, _, SqL.of e1⟩, l, vs, v, rfl, rfl, e1, ev, d, B, μ, F, g, a2.setD pv, ?_⟩
    rw [List.length_set]
    exact q2.later f2 fun _ z => z
def mRem (m : M D) (xs : List D) (k : List D → M (Fl S)) : M (Fl S) := m >>= fun d => match d with
  | .str z => (match strsOf xs with
    | some ys => if z ∈ ys then k ((ys.erase z).map D.str) else stuck
    | none => stuck)
  | _ => stuck
theorem ds_remove (i : Nat) {k : List D → M (Fl S)} (ei : ρ[i]? = some (.ol xs)) (h : PDe X W Wx e ρ m) (hr : ∀ zs, PDs X W Wx rest (ρ.set i (.ol zs)) mk (k zs))
    (hb : ∀ {t : TE} {r : V → List V → Hp → VK → Prop}, MtR X "list.remove" r → PE X e t → PE X (.Call (.Attribute (.Name x p) "remove" apos) [e] [] pos) (tBM X.K "list" r (tVar i) (tCons t tNil)))
    (hs : swapsWith (.Call (.Attribute (.Name x p) "remove" apos) [e] [] pos) none spos.line X.env = pure false := by rfl) :
    PDs X W Wx (.Expr (.Call (.Attribute (.Name x p) "remove" apos) [e] [] pos) spos :: rest) ρ mk (mRem m xs k) := by
  refine ⟨PSsw (pss_cons (ps_expr (hb mt_removeS h.p) hs) (u := fun D σ H => ∃ d, tS W Wx (ρ.set i (.ol d)) mk (k d) D σ H) ⟨fun pins s σ H D I ⟨c, q⟩ => (hr c).p.run pins s σ H D I q⟩) ?_⟩
  intro D0 σ H ⟨B, μ, F, g, a, q⟩
  obtain ⟨l, vs, es, e1, e2, nm, r⟩ := a.ownL ei
  refine ⟨.ref l, es, .inl ⟨rfl, _, SqL.of e1⟩, _, μ, F, g, a.at_, (Run.bind q fun _ z => .inl z).mono (fun _ z => z) fun d g1 μ1 F1 H1 f1 r1 q1 v pv => ?_⟩
  have a1 := a.fu f1 (fun _ z => z) r1
  obtain ⟨l', vs', z0, z1, z2, nm', r'⟩ := a1.ownL ei
  rw [es] at z0
  cases z0
  cases pv with
  | str z =>
    have q2 : Run W Wx σ.length B μ1 F1 H1 ((match strsOf xs with
      | some ys => if z ∈ ys then k ((ys.erase z).map D.str) else stuck
      | none => stuck : M (Fl S)) g1) (EndQ W σ.length B D0 mk) := q1
    cases hx : strsOf xs with
    | none => rw [hx] at q2; exact q2.elim
    | some ys =>
      rw [hx] at q2
      have q3 : Run W Wx σ.length B μ1 F1 H1 ((if z ∈ ys then k ((ys.erase z).map D.str) else stuck : M (Fl S)) g1) (EndQ W σ.length B D0 mk) := q2
      by_cases c : z ∈ ys
      · rw [if_pos c] at q3
        have ev : vs' = ys.map V.str := by
          rw [strsOf_eq hx] at r'
          exact r'.strs
        obtain ⟨f2, a2⟩ := a1.putL (vs := vs') (ys := (ys.erase z).map D.str) ei es (Reps.ofStrs (ys.erase z))
        exact ⟨l, ys, z, rfl, rfl, by rw [z1, ev], c, _, B, μ1, F1, g1, a2, q3.later f2 fun _ z => z⟩
      · rw [if_neg c] at q3
        exact q3.elim
  | _ => exact q1.elim
end
end PD
namespace PD
open PySem PySem.Spec L2
open PyProof.Rows hiding St
section
variable {X : Cx} {W : Wd} {Wx : WX} {ρ : Ro} {a b e o : Expr} {m1 m2 me mo : M D} {mn : M (List D)} {p pos pos' apos : Pos} {k : Nat}
def mNew (ds : List D) : M D := fun g => .ok (.id g.length) (g ++ [.lst ds])
theorem get_snoc {α : Type} {xs : List α} {x y : α} {n : Nat} (h : (xs ++ [x])[n]? = some y) : xs[n]? = some y ∨ (n = xs.length ∧ y = x) := by
  by_cases hn : n < xs.length
  · rw [List.getElem?_append_left hn] at h
    exact .inl h
  · rw [List.getElem?_append_right (Nat.le_of_not_lt hn)] at h
    have e : n - xs.length = 0 := by
      have := (List.getElem?_eq_some_iff.mp h).1
      simp at this
      omega
    rw [e] at h
    exact .inr ⟨by omega, (Option.some.inj h).symm⟩
theorem RG.more {g : GS} {μ : List Addr} {F H : Hp} {l : Addr} {mo : MO} (rg : RG W g μ F H) (nm : ∀ n : Nat, μ[n]? ≠ some l) (fl : F l = none) (h : ∀ μ', Grow μ μ' → MoAt W μ' F H l mo) : Grow μ (μ ++ [l]) ∧ RG W (g ++ [mo]) (μ ++ [l]) F H := by
  have gr : Grow μ (μ ++ [l]) := fun n a e => by
    rw [List.getElem?_append_left (List.getElem?_eq_some_iff.mp e).1]
    exact e
  refine ⟨gr, rg.sub, by rw [List.length_append, List.length_append, rg.len]; rfl, fun i j a e1 e2 => ?_, fun n a e => ?_, fun n a o e e2 => ?_⟩
  · rcases get_snoc e1 with h1 | ⟨h1, rfl⟩ <;> rcases get_snoc e2 with h2 | ⟨h2, z⟩
    · exact rg.nd i j a h1 h2
    · exact absurd (z ▸ h1) (nm i)
    · exact absurd h2 (nm j)
    · omega
  · rcases get_snoc e with h1 | ⟨h1, rfl⟩
    · exact rg.out n a h1
    · exact fl
  · rcases get_snoc e with h1 | ⟨h1, rfl⟩ <;> rcases get_snoc e2 with h2 | ⟨h2, rfl⟩
    · exact (rg.at_ n a o h1 h2).fu gr (.refl F) fun _ z => z
    · have := (List.getElem?_eq_some_iff.mp h1).1
      have := rg.len
      omega
    · have := (List.getElem?_eq_some_iff.mp h2).1
      have := rg.len
      omega
    · exact h _ gr
theorem pd_newI (h : PDn X W Wx e ρ mn) : PDe X W Wx e ρ (mn >>= mNew) :=
  ⟨PEw h.p fun σ H Q ⟨B, μ, F, g, a, q⟩ => ⟨B, μ, F, g, a, (Run.bind q fun _ z => z).mono (fun _ z => z) fun ds g1 μ1 F1 H1 f1 r1 q1 l vs hl e1 e2 nm rs => by
    obtain ⟨gr, rg⟩ := r1.more (mo := .lst ds) nm e2 fun μ' gr => ⟨vs, e1, rs.mono gr (.refl F1)⟩
    have gd1 := a.gd.fu f1 fun _ z => z
    refine q1 _ F1 H1 ⟨gr, fun n x hx h => ?_, .refl F1, fun _ _ _ z _ => z, fun x hx => (gd1 x hx).1, fun _ z => z⟩ rg _ (.id ?_)
    · rcases get_snoc h with z | ⟨_, rfl⟩
      · exact .inl z
      · exact absurd hl (a.gd _ hx).2
    · rw [← r1.len, List.getElem?_append_right (Nat.le_refl _), Nat.sub_self]
      rfl⟩⟩
theorem Rep.idL {μ : List Addr} {F H : Hp} {g : GS} {n : Nat} {v : V} {xs : List D} (rg : RG W g μ F H) (r : Rep W μ F (.id n) v) (e : g[n]? = some (.lst xs)) : ∃ l vs, v = .ref l ∧ μ[n]? = some l ∧ H l = some (.lst vs) ∧ Reps W μ F xs vs := by
  cases r with
  | @id l _ h =>
    obtain ⟨vs, h1, h2⟩ := rg.at_ n l _ h e
    exact ⟨l, vs, rfl, h, h1, h2⟩
def gL (n : Nat) {α : Type} (f : List D → M α) : M α := fun g => match g[n]? with
  | some (.lst xs) => f xs g
  | _ => .st
theorem gL_of {α : Type} {n i : Nat} {f : List D → M α} {g : GS} {B : Addr → Prop} {μ : List Addr} {F H : Hp} {Q : α → GS → List Addr → Hp → Hp → Prop} (q : Run W Wx n B μ F H (gL i f g) Q) : ∃ xs, g[i]? = some (.lst xs) ∧ Run W Wx n B μ F H (f xs g) Q := by
  have q2 : Run W Wx n B μ F H (match g[i]? with
    | some (.lst xs) => f xs g
    | _ => .st) Q := q
  cases e : g[i]? with
  | none => rw [e] at q2; exact q2.elim
  | some o =>
    rw [e] at q2
    cases o with
    | lst xs => exact ⟨xs, rfl, q2⟩
    | ins c fs => exact q2.elim
def atM (xs : List D) (i : Int) : M D := match atI xs i with
  | some d => pure d
  | none => stuck
def dIxA : D → D → M D
  | .id n, .int i => gL n fun xs => atM xs i
  | .id _, _ => stuck
  | x, y => dIx x y
theorem opD_ixA : OpD W (rIx W.K) dIxA := by
  intro B μ F H g x y dx dy Q Wx n gd rg px py q
  cases dx with
  | id j =>
    cases py with
    | int i =>
      obtain ⟨xs, e, q2⟩ := gL_of q
      obtain ⟨l, vs, rfl, em, eh, rs⟩ := px.idL rg e
      have q3 : Run W Wx n B μ F H ((match atI xs i with
        | some d => pure d
        | none => stuck : M D) g) (fun d _ μ' F' H' => ∀ v, Rep W μ' F' d v → Q v H') := q2
      cases e2 : atI xs i with
      | none => rw [e2] at q3; exact q3.elim
      | some d =>
        rw [e2] at q3
        obtain ⟨w, e3, pw⟩ := rs.atI e2
        exact .inl ⟨_, _, _, w, rfl, rfl, SqL.of eh, e3, Run.pure (a := d) q3 gd rg w pw⟩
    | _ => exact q.elim
  | _ => exact opD_ix B μ F H g x y _ dy Q Wx n gd rg px py q
theorem pd_ixA (hK : W.K = X.K) (ha : PDe X W Wx a ρ m1) (hb : PDe X W Wx b ρ m2) (hs : PlainIx b := by exact fun _ _ => rfl) : PDe X W Wx (.Subscript a b pos) ρ (b2 dIxA m1 m2) :=
  ⟨PEw (pe_ix ix_seq ha.p hb.p hs) fun _ _ _ q => opD (hK ▸ opD_ixA) q⟩
def iPut (o i d : D) : M Unit := match o, i with
  | .id n, .int z => gL n fun xs => match ixN xs.length z with
    | some j => fun g => .ok () (g.set n (.lst (xs.set j d)))
    | none => stuck
  | _, _ => stuck
theorem RG.put {g : GS} {μ : List Addr} {F H : Hp} {n : Nat} {l : Addr} {xs : List D} {ws : List V} {B : Addr → Prop} (rg : RG W g μ F H) (gd : Guard B F H) (em : μ[n]? = some l) (rs : Reps W μ F xs ws) : Fu B μ F H μ F (upd H l (.lst ws)) ∧ RG W (g.set n (.lst xs)) μ F (upd H l (.lst ws)) := by
  have fl := rg.out n l em
  refine ⟨⟨.refl, fun _ _ _ h => .inl h, .refl F, fun x u hx e hm => ?_, fun x hx => (gd x hx).1, fun x hx => ?_⟩, fun x u e => ?_, by rw [List.length_set]; exact rg.len, rg.nd, rg.out, fun j x u e e2 => ?_⟩
  · rw [upd_ne (fun z => hm n (by rw [em, z]))]
    exact e
  · by_cases z : x = l
    · rw [z, upd_same]
      simp
    · rw [upd_ne z]
      exact hx
  · rw [upd_ne (ne_of_none e fl)]
    exact rg.sub x u e
  · by_cases hj : n = j
    · subst hj
      rw [List.getElem?_set_self'] at e2
      cases hg : g[n]? with
      | none => rw [hg] at e2; cases e2
      | some _ =>
        rw [hg] at e2
        cases e2
        rw [em] at e
        cases e
        exact ⟨ws, upd_same, rs⟩
    · rw [List.getElem?_set_ne hj] at e2
      have ne : x ≠ l := fun z => hj (rg.nd n j l em (z ▸ e))
      exact (rg.at_ j x u e e2).fu .refl (.refl F) fun z q => by
        rw [upd_ne ne]
        exact q
theorem put_of {o i d : D} {vo vi vd : V} {n : Nat} {g : GS} {B : Addr → Prop} {μ : List Addr} {F H : Hp} {P : Unit → GS → List Addr → Hp → Hp → Prop} {R : Hp → Prop} (gd : Guard B F H) (rg : RG W g μ F H) (ro : Rep W μ F o vo) (ri : Rep W μ F i vi) (rd : Rep W μ F d vd)
    (q : Run W Wx n B μ F H (iPut o i d g) P) (k : ∀ g' H', Fu B μ F H μ F H' → RG W g' μ F H' → P () g' μ F H' → R H') : rSetL vo vi vd H R := by
  cases o with
  | id j =>
    cases ri with
    | int z =>
      obtain ⟨xs, e, q2⟩ := gL_of q
      obtain ⟨l, vs, rfl, em, eh, rs⟩ := ro.idL rg e
      have q3 : Run W Wx n B μ F H ((match ixN xs.length z with
        | some j' => fun g => .ok () (g.set j (.lst (xs.set j' d)))
        | none => stuck : M Unit) g) P := q2
      cases e2 : ixN xs.length z with
      | none => rw [e2] at q3; exact q3.elim
      | some j' =>
        rw [e2] at q3
        obtain ⟨f, r⟩ := rg.put gd em (rs.set rd j')
        exact ⟨l, vs, z, j', rfl, rfl, eh, by rw [← rs.length]; exact e2, k _ _ f r (q3 μ F _ f r)⟩
    | _ => exact q.elim
  | _ => exact (by cases i <;> exact q.elim)
end
section
variable {X : Cx} {W : Wd} {Wx : WX} {ρ : Ro} {S : Type} {mk : S → Ro} {rest : List Stmt} {e o i : Expr} {me mo mi : M D} {pos pos' tpos : Pos}
theorem ds_put {k : M (Fl S)} (he : PDe X W Wx e ρ me) (ho : PDe X W Wx o ρ mo) (hi : PDe X W Wx i ρ mi) (hr : PDs X W Wx rest ρ mk k)
    (ha : ∀ v, assign (.Subscript o i pos') X.env v = (do
      let ov ← holding [v] (eval o X.env)
      let iv ← holding [v, ov] (eval i X.env)
      standAt pos'
      holding [v, ov, iv] (setItem ov iv v)
      release [v, ov, iv] []) := by intro _; rfl)
    (hs : swapsWithSole [.Subscript o i pos'] e pos.line X.env = pure false := by rfl) (hw : swappedStores [.Subscript o i pos'] e X.env = pure none := by rfl) (h1 : (assignEach [.Subscript o i pos'] X.env).map (·.2) = [assign (.Subscript o i pos') X.env] := by rfl) :
    PDs X W Wx (.Assign [.Subscript o i pos'] e pos :: rest) ρ mk (me >>= fun d => mo >>= fun x => mi >>= fun y => iPut x y d >>= fun _ => k) := by
  refine ⟨PSsw (pss_cons (ps_asg he.p (pg_sub ho.p hi.p set_list ha) hs hw h1) hr.p) ?_⟩
  intro D0 σ H ⟨B, μ, F, g, a, q⟩
  refine ⟨_, μ, F, g, a.at_, (Run.bind q fun _ z => .inl z).mono (fun _ z => z) fun d g1 μ1 F1 H1 f1 r1 q1 vd pd => ?_⟩
  have a1 := a.fu f1 (fun _ z => z) r1
  refine ⟨_, μ1, F1, g1, a1.at_, (Run.bind q1 fun _ z => .inl z).mono (fun _ z => z) fun x g2 μ2 F2 H2 f2 r2 q2 vo po => ?_⟩
  have a2 := a1.fu f2 (fun _ z => z) r2
  refine ⟨_, μ2, F2, g2, a2.at_, (Run.bind q2 fun _ z => .inl z).mono (fun _ z => z) fun y g3 μ3 F3 H3 f3 r3 q3 vi pi => ?_⟩
  have a3 := a2.fu f3 (fun _ z => z) r3
  have q4 := Run.bind (B' := fun z => B z ∨ Owns ρ σ z) q3 fun _ z => .inl z
  exact put_of a3.at_.gd r3 (po.mono f3.grow f3.fro) pi ((pd.mono f2.grow f2.fro).mono f3.grow f3.fro) q4 fun g4 H4 f4 r4 q5 => ⟨B, μ3, F3, g4, a3.fu f4 (fun _ z => z) r4, q5⟩
theorem ds_put2 (j : Nat) {x : Str} {px : Pos} {kt : Nat} {k : D → M (Fl S)} (hK : W.K = X.K) (hc : X.calm = true) (hN : X.N.Nodup) (he : PDe X W Wx e ρ me) (ho : PDe X W Wx o ρ mo) (hi : PDe X W Wx i ρ mi) (hr : ∀ d, PDs X W Wx rest (ρ.set j (.d d)) mk (k d))
    (ha : ∀ v, assign (.Subscript o i pos') X.env v = (do
      let ov ← holding [v] (eval o X.env)
      let iv ← holding [v, ov] (eval i X.env)
      standAt pos'
      holding [v, ov, iv] (setItem ov iv v)
      release [v, ov, iv] []) := by intro _; rfl)
    (hj : X.N[j]? = some x := by rfl) (hx : Loc X.env.scope x := by first | exact .inl rfl | exact .inr rfl) (hf : X.fn x = true ∨ X.env.scope.names.lookup x = some .local := by first | exact .inl rfl | exact .inr rfl)
    (hs : swapsWithSole [.Tuple [.Subscript o i pos', .Name x px] kt tpos] e pos.line X.env = pure false := by rfl) (hw : swappedStores [.Tuple [.Subscript o i pos', .Name x px] kt tpos] e X.env = pure none := by rfl)
    (hn : (assignEach [.Subscript o i pos', .Name x px] X.env).length = 2 := by rfl) (hst : (assignEach [.Subscript o i pos', .Name x px] X.env).findIdx? (·.1) = none := by rfl)
    (h1 : (assignEach [.Tuple [.Subscript o i pos', .Name x px] kt tpos] X.env).map (·.2) = [assign (.Tuple [.Subscript o i pos', .Name x px] kt tpos) X.env] := by rfl) :
    PDs X W Wx (.Assign [.Tuple [.Subscript o i pos', .Name x px] kt tpos] e pos :: rest) ρ mk (me >>= un2 fun d1 d2 => mo >>= fun x => mi >>= fun y => iPut x y d1 >>= fun _ => k d2) := by
  have pg : PG X (.Tuple [.Subscript o i pos', .Name x px] kt tpos) (gTup X.K 2 (gCons (gSub (tE W Wx ρ mo) (tE W Wx ρ mi) rSetL) (gCons (gName j) gNil))) := pg_tup hc (pgs_cons (pg_sub ho.p hi.p set_list ha) (pgs_cons (pg_name hN hj hx (hf := hf)) pgs_nil)) hn hst
  refine ⟨PSsw (pss_cons (ps_asg he.p pg hs hw h1) (u := fun D σ H => ∃ d, tS W Wx (ρ.set j (.d d)) mk (k d) D σ H) ⟨fun pins s σ H D I ⟨c, q⟩ => (hr c).p.run pins s σ H D I q⟩) ?_⟩
  intro D0 σ H ⟨B, μ, F, g, a, q⟩
  refine ⟨_, μ, F, g, a.at_, (Run.bind q fun _ z => .inl z).mono (fun _ z => z) fun d g1 μ1 F1 H1 f1 r1 q1 vd pd => ?_⟩
  have a1 := a.fu f1 (fun _ z => z) r1
  obtain ⟨d1, d2, ed, q1⟩ := un2_of q1
  subst ed
  obtain ⟨l, v1, v2, ev, ht, p1, p2⟩ := pd.tup2
  refine ⟨l, [v1, v2], ev, hK ▸ Same.tup r1.sub ht, rfl, v1, _, rfl, ?_⟩
  refine ⟨_, μ1, F1, g1, a1.at_, (Run.bind q1 fun _ z => .inl z).mono (fun _ z => z) fun x g2 μ2 F2 H2 f2 r2 q2 vo po => ?_⟩
  have a2 := a1.fu f2 (fun _ z => z) r2
  refine ⟨_, μ2, F2, g2, a2.at_, (Run.bind q2 fun _ z => .inl z).mono (fun _ z => z) fun y g3 μ3 F3 H3 f3 r3 q3 vi pi => ?_⟩
  have a3 := a2.fu f3 (fun _ z => z) r3
  have q4 := Run.bind (B' := fun z => B z ∨ Owns ρ σ z) q3 fun _ z => .inl z
  refine put_of a3.at_.gd r3 (po.mono f3.grow f3.fro) pi ((p1.mono f2.grow f2.fro).mono f3.grow f3.fro) q4 fun g4 H4 f4 r4 q5 => ?_
  have a4 := a3.fu f4 (fun _ z => z) r4
  refine ⟨v2, [], rfl, rfl, d2, B, μ3, F3, g4, a4.setD (((p2.mono f2.grow f2.fro).mono f3.grow f3.fro).mono f4.grow f4.fro), ?_⟩
  rw [List.length_set]
  exact q5
end
section
variable {X : Cx} {W : Wd} {Wx : WX} {ρ : Ro} {k j : Nat} {f : Addr} {m : List D → M D} {g : List D → List D → List D} {x nm : Str} {ks : List Str} {p pos kpos : Pos} {e : Expr} {es : List Expr} {kws : List Keyword} {c : Ar}
structure PDk (X : Cx) (W : Wd) (Wx : WX) (kws : List Keyword) (ρ : Ro) (c : Ar) : Prop where
  p : PK X kws (tK W Wx ρ c)
theorem PKw {kws : List Keyword} {t u : TA} (h : PK X kws t) (k : ∀ σ H Q, u σ H Q → t σ H Q) : PK X kws u := ⟨fun pos pins s σ H Q I q => h.run pos pins s σ H Q I (k σ H Q q)⟩
theorem dk_nil : PDk X W Wx [] ρ aNil := ⟨PKw pk_nil fun σ H Q ⟨β, k, B, μ, F, g, P, a, q, kk⟩ => kk [] [] μ F H g (.refl a.gd) a .nil q⟩
theorem dk_cons {mm : M D} (ha : PDe X W Wx e ρ mm) (hr : PDk X W Wx kws ρ c) : PDk X W Wx (⟨nm, e, kpos⟩ :: kws) ρ (aCons mm c) :=
  ⟨PKw (pk_cons ha.p hr.p) fun σ H Q ⟨β, k, B, μ, F, g, P, a, q, kk⟩ => ⟨B, μ, F, g, a, (Run.bind q fun _ z => z).mono (fun _ z => z) fun d g1 μ1 F1 H1 f1 r1 q1 v p =>
    ⟨β, fun xs => k (d :: xs), B, μ1, F1, g1, P, a.fu f1 (fun _ z => z) r1, q1, fun ds vs μ2 F2 H2 g2 f2 a2 rs q2 => kk (d :: ds) (v :: vs) μ2 F2 H2 g2 (f1.trans f2 fun _ z => z) a2 (.cons (p.mono f2.grow f2.fro) rs) q2⟩⟩⟩
def cK0 (i : Nat) (m : List D → M D) (g : List D → List D → List D) : List D → M D := fun es => if es.length = i then m (g [] es) else stuck
theorem pd_callK0 (F : FnB X.prog X.w X.K X.mg X.base W k f m 0 ks g) (b : Bd X k) (tk : Takes X Wx) (hm : X.mg x = some (.ref f)) (ha : PDk X W Wx kws ρ c) (hg : Gl X x := by rfl)
    (hall : (backToKw pos (keywordEach kws X.env)).all (·.1.isSome) = true := by rfl) (hks : (backToKw pos (keywordEach kws X.env)).filterMap (·.1) = ks := by rfl) (hdb : (x == ("__debug__" : Str)) = false := by decide)
    (hpl : ((backTo pos (starEach [] X.env)).any (·.1) || (backToKw pos (keywordEach kws X.env)).any (·.1.isNone)) = false := by rfl) :
    PDe X W Wx (.Call (.Name x p) [] kws pos) ρ (c D (cK0 ks.length m g)) := by
  obtain ⟨fd, ps, n, gu, gV, F1, hb, hv, hr, hl⟩ := F.ex
  refine ⟨⟨fun pins s σ H Q I q => ?_⟩⟩
  refine wpAny_Call_Name_kw (ld_glob I hg hm ?_ hdb)
  refine PySem.W.callWith_KW0 (h₀ := X.base) I.ok.mod.kin F.kp hall (thn (ha.p.run pos pins s σ H (fun vs H1 => vs.length = ks.length ∧ spD W n m (gV [] vs) H1 Q (WE Wx σ)) I (tK_of q ?_)) fun ws s1 ⟨vs, H1, I1, r, hj, q1⟩ => ⟨I1.kIn, ?_⟩) hpl
  · intro ds vs B μ F H g' a rs q1
    have q2 : Run W Wx σ.length B μ F H ((if ds.length = ks.length then m (g [] ds) else stuck : M D) g') (fun d _ μ' F' H' => ∀ v, Rep W μ' F' d v → Q v H') := q1
    by_cases h : ds.length = ks.length
    · rw [if_pos h] at q2
      have hv : vs.length = ks.length := by rw [← rs.length]; exact h
      exact ⟨hv, spD_of (m := m) a (hr μ F [] ds [] vs .nil rs) (hl [] vs rfl hv) q2⟩
    · rw [if_neg h] at q2
      exact q2.elim
  · rw [hks]
    exact runG F1 b tk I1 (us := []) (ws := ws) (all := gu [] ws) (hb s1 [] ws I1.kIn rfl (by rw [← r.length]; exact hj)) (hv [] _ _ _ .nil r) q1
end
section
variable {P : Program} {w : World} {K : PySem.W.Frag} {mg : Str → Option Value} {base : Heap} {k : Nat} {f : Addr} {fd : FuncData} {name qual : Str} {params : Arguments} {body : List Stmt} {scope : Scope} {dvs : List V} {kws : List (Str × V)} {ps : List Str} {W : Wd} {n : Nat} {m : List D → M D}
theorem fnB_swap {x y : Str} (G : FnG P w K mg base k f fd ps (spD W 2 m)) (F : FunD K name qual params body scope dvs kws f fd) (hb : ∀ u v : Value, bindArgs fd ⟨[], [(x, u), (y, v)]⟩ = pure (ps.zip [v, u])) : FnB P w K mg base W k f m 0 [x, y] (fun _ es => es.reverse) := by
  refine ⟨⟨fd, ps, 2, fun _ ws => ws.reverse, fun _ vs => vs.reverse, G, fun s us ws X l1 l2 => ?_, fun _ _ _ _ _ r => r.reverse, fun _ _ _ _ _ _ _ r => r.reverse, fun vs zs _ h => by rw [List.length_reverse]; exact h⟩, F.kp⟩
  match us, ws, l1, l2 with
  | [], [u, v], _, _ => exact .of_eq (hb u v)
end
end PD
namespace PD
open PySem PySem.Spec L2
open PyProof.Rows hiding St
def nkEq : Option NameKind → NameKind → Bool
  | some a, b => decide (a = b)
  | none, _ => false
def blkB (N : List Str) (sc scope : Scope) (own : List (Str × Nat)) : Bool :=
  decide (scope.kind = .function) && (scope.names.all fun y => nkEq (scope.names.lookup y.1) y.2) && (own.all fun p => decide (N[p.2]? = some p.1)) &&
  (scope.names.all fun y => !decide (y.2 = .free) || (nkEq (sc.names.lookup y.1) .cell || nkEq (sc.names.lookup y.1) .free)) && scope.names.all fun y => !(decide (y.2 = .local) || decide (y.2 = .cell)) || (decide (y.1 ∈ own.map (·.1)) || decide (y.1 ∉ N))
theorem nkEq_ok {o : Option NameKind} {k : NameKind} (h : nkEq o k = true) : o = some k := by
  cases o with
  | none => cases h
  | some a => rw [of_decide_eq_true h]
theorem blk_of {N : List Str} {sc scope : Scope} {own : List (Str × Nat)} (h : blkB N sc scope own = true) : BlkOk N sc scope own := by
  unfold blkB at h
  simp only [Bool.and_eq_true, decide_eq_true_eq, List.all_eq_true] at h
  obtain ⟨⟨⟨⟨h1, h2⟩, h3⟩, h4⟩, h5⟩ := h
  refine ⟨h1, fun y hy => nkEq_ok (h2 y hy), h3, fun y hy e => ?_, fun y hy e => ?_⟩
  · have z := h4 y hy
    rw [e] at z
    have z2 : (nkEq (sc.names.lookup y.1) .cell || nkEq (sc.names.lookup y.1) .free) = true := z
    rcases Bool.or_eq_true_iff.mp z2 with z | z
    · exact .inl (nkEq_ok z)
    · exact .inr (nkEq_ok z)
  · have z := h5 y hy
    rcases Bool.or_eq_true_iff.mp z with z | z
    · rw [Bool.not_eq_true', Bool.or_eq_false_iff] at z
      rcases e with e | e
      · rw [e] at z
        exact absurd z.1 (by decide)
      · rw [e] at z
        exact absurd z.2 (by decide)
    · rcases Bool.or_eq_true_iff.mp z with z | z
      · exact .inl (of_decide_eq_true z)
      · exact .inr (of_decide_eq_true z)
end PD
namespace PD
open PySem PySem.Spec L2
open PyProof.Rows hiding St
section
variable {X : Cx} {W : Wd} {Wx : WX} {ρ : Ro} {S : Type} {mk : S → Ro} {rest : List Stmt} {a b e o : Expr} {m1 m2 me mo : M D} {mq mq2 : M (Bool × List D)} {p pos pos' apos : Pos} {k : Nat} {x : Str}
theorem pd_gstrE {z : Str} (hm : ∃ t, X.mg x = some (.str z t)) (hg : Gl X x := by rfl) (hd : (x == ("__debug__" : Str)) = false := by decide) : PDe X W Wx (.Name x pos) ρ (pure (.str z)) := by
  obtain ⟨t, h⟩ := hm
  exact pd_gstr h hg hd
theorem pd_gintE {i : Int} (hm : ∃ t, X.mg x = some (.int i t)) (hg : Gl X x := by rfl) (hd : (x == ("__debug__" : Str)) = false := by decide) : PDe X W Wx (.Name x pos) ρ (pure (.int i)) := by
  obtain ⟨t, h⟩ := hm
  exact pd_gint h hg hd
section
variable (h : PDe X W Wx e ρ me)
include h
theorem pd_intOf (hm : X.mg "int" = none) (hg : Gl X "int" := by rfl) (he : starEach [e] X.env = (false, eval e X.env) :: starEach [] X.env := by rfl) : PDe X W Wx (.Call (.Name "int" p) [e] [] pos) ρ (aCons me aNil D fInt) :=
  pd_callT (CallR.or call_int1 call_int_str) cd_int hm (da_cons h da_nil he) hg (by decide +kernel) (he := he)
theorem pd_absOf (hm : X.mg "abs" = none) (hg : Gl X "abs" := by rfl) (he : starEach [e] X.env = (false, eval e X.env) :: starEach [] X.env := by rfl) : PDe X W Wx (.Call (.Name "abs" p) [e] [] pos) ρ (aCons me aNil D fAbs) :=
  pd_callB call_abs cd_abs hm (da_cons h da_nil he) hg (by decide +kernel) (he := he)
theorem pd_all (hc : X.calm = true) (hm : X.mg "all" = none) (hg : Gl X "all" := by rfl) (he : starEach [e] X.env = (false, eval e X.env) :: starEach [] X.env := by rfl) : PDe X W Wx (.Call (.Name "all" p) [e] [] pos) ρ (aCons me aNil D fAll) :=
  pd_callB (cr_all hc) cd_bools hm (da_cons h da_nil he) hg (by decide +kernel) (he := he)
theorem pd_any (hc : X.calm = true) (hm : X.mg "any" = none) (hg : Gl X "any" := by rfl) (he : starEach [e] X.env = (false, eval e X.env) :: starEach [] X.env := by rfl) : PDe X W Wx (.Call (.Name "any" p) [e] [] pos) ρ (aCons me aNil D fAny) :=
  pd_callB (cr_any hc) cd_bools hm (da_cons h da_nil he) hg (by decide +kernel) (he := he)
end
section
variable (h1 : PDe X W Wx a ρ m1) (h2 : PDe X W Wx b ρ m2)
include h1 h2
theorem pd_maxOf (hc : X.calm = true) (hm : X.mg "max" = none) (hg : Gl X "max" := by rfl) (he : starEach [a, b] X.env = (false, eval a X.env) :: starEach [b] X.env := by rfl) (he2 : starEach [b] X.env = (false, eval b X.env) :: starEach [] X.env := by rfl) (hpl : (backTo pos (starEach [b] X.env)).any (·.1) = false := by rfl) : PDe X W Wx (.Call (.Name "max" p) [a, b] [] pos) ρ (aCons m1 (aCons m2 aNil) D fMax2) :=
  pd_callB (call_max2 hc) cd_max2 hm (da_cons h1 (da_cons h2 da_nil he2) he) hg (by decide +kernel) (he := he) (hpl := hpl)
theorem pd_minOf (hc : X.calm = true) (hm : X.mg "min" = none) (hg : Gl X "min" := by rfl) (he : starEach [a, b] X.env = (false, eval a X.env) :: starEach [b] X.env := by rfl) (he2 : starEach [b] X.env = (false, eval b X.env) :: starEach [] X.env := by rfl) (hpl : (backTo pos (starEach [b] X.env)).any (·.1) = false := by rfl) : PDe X W Wx (.Call (.Name "min" p) [a, b] [] pos) ρ (aCons m1 (aCons m2 aNil) D fMin2) :=
  pd_callB (call_min2 hc) cd_min2 hm (da_cons h1 (da_cons h2 da_nil he2) he) hg (by decide +kernel) (he := he) (hpl := hpl)
theorem cd_divmodZ : CallD W (fun xs H Q => ∃ i j, xs = [.int i, .int j] ∧ CDiv i j ∧ layT H Q [.int (i / j), .int (i % j)]) fDivmod := cd_divmod
theorem pd_divmodOf (hm : X.mg "divmod" = none) (hg : Gl X "divmod" := by rfl) (he : starEach [a, b] X.env = (false, eval a X.env) :: starEach [b] X.env := by rfl) (he2 : starEach [b] X.env = (false, eval b X.env) :: starEach [] X.env := by rfl) (hpl : (backTo pos (starEach [b] X.env)).any (·.1) = false := by rfl) : PDe X W Wx (.Call (.Name "divmod" p) [a, b] [] pos) ρ (aCons m1 (aCons m2 aNil) D fDivmod) :=
  pd_callB call_divmodZ cd_divmod hm (da_cons h1 (da_cons h2 da_nil he2) he) hg (by decide +kernel) (he := he) (hpl := hpl)
end
theorem pd_lenO {c0 : Str} {f : Addr} {m : List D → M D} {g : List D → List D → List D} (F1 : FnB X.prog X.w X.K X.mg X.base W k f m 1 [] g) (bd : Bd X (k + 1)) (hs : PySem.W.findIn X.K (.ref (W.ca c0)) "__len__" = some (some (.ref f))) (hf : PySem.W.isFn X.K (.ref f) = true) (hm : X.mg "len" = none) (h : PDe X W Wx e ρ me) (hg : Gl X "len" := by rfl)
    (he : starEach [e] X.env = (false, eval e X.env) :: starEach [] X.env := by rfl) (hpl : (backTo pos (starEach [] X.env)).any (·.1) = false := by rfl) : PDe X W Wx (.Call (.Name "len" p) [e] [] pos) ρ (me >>= oLen c0 m g) := pdx_call1 (unX_len F1 bd hs hf) hm boot_len h hg (by decide) (by decide) he hpl
def qAdd (x y : Bool × List D) : M (List D) := if x.1 = false ∧ y.1 = false ∧ x.2.length + y.2.length ≤ sizeLine then pure (x.2 ++ y.2) else stuck
theorem SeqAt.lst {B : Addr → Prop} {μ : List Addr} {F H : Hp} {ds : List D} {v : V} (sub : Same F H) (h : SeqAt W B μ F H false ds v) (hl : ∀ a vs, v = .ref a → SqL W.K F a vs → ∃ ws, F a = some (.lst ws)) : True := trivial
theorem Rep.newDct {μ : List Addr} {F H : Hp} {q : Addr} {kvs : List (Key × V)} {ds : List D} (sub : Same F H) (hp : H q = none) (r : Reps W μ F ds (kvs.map (·.2))) : Rep W μ (upd F q (.dK kvs)) (.dct (kvs.map (·.1)) ds) (.ref q) := .dct upd_same (r.mono .refl (Same.upd' sub hp))
theorem pd_dct0 : PDe X W Wx (.Dict [] [] pos) ρ (pure (.dct [] [])) :=
  ⟨PEw pe_dnewK fun σ H Q ⟨B, μ, F, g, a, q⟩ q1 hq => Run.laid q a.gd a.rg hq _ (.newDct (kvs := []) a.rg.sub hq .nil)⟩
def keyD : D → Option Key
  | .int i => some (.inl i)
  | .str x => some (.inr x)
  | _ => none
def mDct1 (mk mv : M D) : M D := mk >>= fun dk => mv >>= fun dv => match keyD dk with
  | some kk => pure (.dct [kk] [dv])
  | none => stuck
theorem pd_dct1 {ek ev : Expr} (h1 : PDe X W Wx ek ρ m1) (h2 : PDe X W Wx ev ρ m2) : PDe X W Wx (.Dict [some ek] [ev] pos) ρ (mDct1 m1 m2) := by
  refine ⟨PEw (pe_disp (pps_cons h1.p h2.p pps_nil) rfl rfl (by simp) (by simp)) fun σ H Q ⟨B, μ, F, g, a, q⟩ q1 hq => ?_⟩
  have nB : ¬ B q1 := fun z => (a.gd q1 z).2 hq
  have fu0 := Fu.own (μ := μ) (o := .dK []) a.gd hq
  let B' : Addr → Prop := fun y => B y ∨ y = q1
  have a0 := a.fu fu0 (fun _ z => z) (a.rg.own hq)
  have fq : F q1 = none := a.rg.sub.free hq
  have a1 : At W B' μ F (upd H q1 (.dK [])) g ρ σ := ⟨fun y z => z.elim (a0.gd y) fun z => by rw [z]; exact ⟨fq, by rw [upd_same]; simp⟩, a0.rel, a0.rg, fun y z => .inl (a0.own y z)⟩
  have nm : ∀ n : Nat, μ[n]? ≠ some q1 := a.rg.notin hq
  have q0 := Run.later q fu0 fun _ z => z
  refine ⟨B', μ, F, g, a1, (Run.bind q0 fun _ z => .inl z).mono (fun _ z => z) fun dk g2 μ2 F2 H2 f2 r2 q2 vk pk => ?_⟩
  have a2 := a1.fu f2 (fun _ z => z) r2
  refine ⟨B', μ2, F2, g2, a2, (Run.bind q2 fun _ z => .inl z).mono (fun _ z => z) fun dv g3 μ3 F3 H3 f3 r3 q3 vv pv => ?_⟩
  have a3 := a2.fu f3 (fun _ z => z) r3
  have f23 := f2.trans f3 fun _ z => z
  have e3 : H3 q1 = some (.dK []) := f23.keep _ _ (.inr rfl) upd_same nm
  have fq3 : F3 q1 = none := f23.out q1 (.inr rfl)
  have gd3 : Guard B F3 H3 := fun y z => a3.gd y (.inl z)
  have nm3 : ∀ n : Nat, μ3[n]? ≠ some q1 := fun n e => (f23.new n q1 (.inr rfl) e).elim (nm n) fun z => by rw [upd_same] at z; cases z
  refine ⟨e3, ?_⟩
  have fin : ∀ (kk : Key), Run W Wx σ.length B μ3 F3 H3 ((pure (.dct [kk] [dv]) : M D) g3) (fun d _ μ' F' H' => ∀ v, Rep W μ' F' d v → Q v H') → Q (.ref q1) (upd H3 q1 (.dK (mergeK [] [(kk, vv)]))) := fun kk z => by
    refine z μ3 _ _ (Fu.seal (o := .dK [(kk, vv)]) gd3 fq3 nB) (r3.seal fq3 nm3) _ (.dct (kvs := [(kk, vv)]) upd_same (.one (pv.mono .refl fun y o e => ?_)))
    rw [upd_ne (ne_of_none e fq3)]
    exact e
  have q4 : Run W Wx σ.length B μ3 F3 H3 ((match keyD dk with
    | some kk => pure (.dct [kk] [dv])
    | none => stuck : M D) g3) (fun d _ μ' F' H' => ∀ v, Rep W μ' F' d v → Q v H') := q3
  cases pk with
  | int i => exact ⟨[(.inl i, vv)], rfl, by simp, fin _ q4⟩
  | str z => exact ⟨[(.inr z, vv)], rfl, by simp, fin _ q4⟩
  | _ => exact q4.elim
end
section
variable {X : Cx} {W : Wd} {Wx : WX} {ρ : Ro} {S : Type} {mk : S → Ro} {rest : List Stmt} {e e2 : Expr} {m m2 : M D} {p p2 pos pos2 apos apos2 spos : Pos} {x y : Str} {xs ys : List D}
def pickD (ys : List D) : D → Option (Nat × D)
  | .int i => if -(2 ^ 63) ≤ i ∧ i < 2 ^ 63 then (match seqIndex? i ys.length with
    | some k => (match ys[k]? with
      | some d => some (k, d)
      | none => none)
    | none => none) else none
  | _ => none
theorem pickD_of {ys : List D} {d : D} {k : Nat} {v : D} (h : pickD ys d = some (k, v)) : ∃ i : Int, d = .int i ∧ -(2 ^ 63) ≤ i ∧ i < 2 ^ 63 ∧ seqIndex? i ys.length = some k ∧ ys[k]? = some v := by
  cases d with
  | int i =>
    unfold pickD at h
    by_cases c : -(2 ^ 63) ≤ i ∧ i < 2 ^ 63
    · simp only [if_pos c] at h
      cases e1 : seqIndex? i ys.length with
      | none => rw [e1] at h; cases h
      | some k' =>
        rw [e1] at h
        dsimp only at h
        cases e2 : ys[k']? with
        | none => rw [e2] at h; cases h
        | some d =>
          rw [e2] at h
          cases h
          exact ⟨i, rfl, c.1, c.2, e1, e2⟩
    · simp only [if_neg c] at h
      cases h
  | _ => cases h
def mAppPop (m : M D) (xs ys : List D) (k : List D → List D → M (Fl S)) : M (Fl S) := m >>= fun d => match pickD ys d with
  | some (n, v) => if xs.length < sizeLine then k (xs ++ [v]) (ys.eraseIdx n) else stuck
  | none => stuck
theorem ds_appPop (i j : Nat) {k : List D → List D → M (Fl S)} (hij : i ≠ j) (ei : ρ[i]? = some (.ol xs)) (ej : ρ[j]? = some (.ol ys)) (h : PDe X W Wx e ρ m) (hr : ∀ us vs, PDs X W Wx rest ((ρ.set j (.ol vs)).set i (.ol us)) mk (k us vs))
    (hb : ∀ {t : TE} {r : V → List V → Hp → VK → Prop}, MtR X "list.append" r → PE X (.Call (.Attribute (.Name y p2) "pop" apos2) [e] [] pos2) t → PE X (.Call (.Attribute (.Name x p) "append" apos) [.Call (.Attribute (.Name y p2) "pop" apos2) [e] [] pos2] [] pos) (tBM X.K "list" r (tVar i) (tCons t tNil)))
    (hb2 : ∀ {t : TE} {r : V → List V → Hp → VK → Prop}, MtR X "list.pop" r → PE X e t → PE X (.Call (.Attribute (.Name y p2) "pop" apos2) [e] [] pos2) (tBM X.K "list" r (tVar j) (tCons t tNil)))
    (hs : swapsWith (.Call (.Attribute (.Name x p) "append" apos) [.Call (.Attribute (.Name y p2) "pop" apos2) [e] [] pos2] [] pos) none spos.line X.env = pure false := by rfl) :
    PDs X W Wx (.Expr (.Call (.Attribute (.Name x p) "append" apos) [.Call (.Attribute (.Name y p2) "pop" apos2) [e] [] pos2] [] pos) spos :: rest) ρ mk (mAppPop m xs ys k) := by
  refine ⟨PSsw (pss_cons (ps_expr (hb mt_append (hb2 mt_popAt h.p)) hs) (u := fun D σ H => ∃ us vs, tS W Wx ((ρ.set j (.ol vs)).set i (.ol us)) mk (k us vs) D σ H) ⟨fun pins s σ H D I ⟨c, d, q⟩ => (hr c d).p.run pins s σ H D I q⟩) ?_⟩
  intro D0 σ H ⟨B, μ, F, g, a, q⟩
  obtain ⟨l, vs, es, e1, e2, nm, r⟩ := a.ownL ei
  obtain ⟨l2, vs2, es2, e12, e22, nm2, r2⟩ := a.ownL ej
  refine ⟨.ref l, es, .inl ⟨rfl, _, SqL.of e1⟩, .ref l2, es2, .inl ⟨rfl, _, SqL.of e12⟩, _, μ, F, g, a.at_, (Run.bind q fun _ z => .inl z).mono (fun _ z => z) fun d g1 μ1 F1 H1 f1 r1 q1 v pv => ?_⟩
  have a1 := a.fu f1 (fun _ z => z) r1
  obtain ⟨l', vs', z0, z1, z2, nm', r'⟩ := a1.ownL ei
  rw [es] at z0
  cases z0
  obtain ⟨l2', vs2', y0, y1, y2, nm2', r2'⟩ := a1.ownL ej
  rw [es2] at y0
  cases y0
  have q2 : Run W Wx σ.length B μ1 F1 H1 ((match pickD ys d with
    | some (n, v) => if xs.length < sizeLine then k (xs ++ [v]) (ys.eraseIdx n) else stuck
    | none => stuck : M (Fl S)) g1) (EndQ W σ.length B D0 mk) := q1
  cases hp : pickD ys d with
  | none => rw [hp] at q2; exact q2.elim
  | some nv =>
    obtain ⟨n, dv⟩ := nv
    rw [hp] at q2
    have q3 : Run W Wx σ.length B μ1 F1 H1 ((if xs.length < sizeLine then k (xs ++ [dv]) (ys.eraseIdx n) else stuck : M (Fl S)) g1) (EndQ W σ.length B D0 mk) := q2
    by_cases c : xs.length < sizeLine
    · rw [if_pos c] at q3
      obtain ⟨z, ed, b1, b2, hn, hv⟩ := pickD_of hp
      subst ed
      cases pv
      obtain ⟨w, ew, pw⟩ := r2'.get hv
      have ne : l2 ≠ l := fun z => hij (a1.rel.own i j _ _ _ ei ej rfl rfl es (by rw [es2, z]))
      obtain ⟨f2, a2⟩ := a1.putL (vs := vs2') ej es2 (r2'.eraseIdx n)
      have ei2 : (ρ.set j (.ol (ys.eraseIdx n)))[i]? = some (.ol xs) := by
        rw [List.getElem?_set_ne (fun z => hij z.symm)]
        exact ei
      obtain ⟨f3, a3⟩ := a2.putL (vs := vs') ei2 es (r'.append (.one pw))
      refine ⟨l2, vs2', z, n, w, rfl, rfl, y1, b1, b2, by rw [← r2'.length]; exact hn, ew, l, vs', w, rfl, rfl, ?_, by rw [← r'.length]; exact c, _, _, B, μ1, F1, g1, a3, (q3.later f2 fun _ z => z).later f3 fun _ z => z⟩
      rw [upd_ne ne.symm]
      exact z1
    · rw [if_neg c] at q3
      exact q3.elim
def mInsPop (m m2 : M D) (xs : List D) (k : List D → M (Fl S)) : M (Fl S) := m >>= fun d => m2 >>= fun d2 => match d, pickD xs d2 with
  | .int i, some (n, v) => if 0 ≤ i ∧ i < 2 ^ 63 ∧ (xs.eraseIdx n).length < sizeLine then k ((xs.eraseIdx n).take i.toNat ++ [v] ++ (xs.eraseIdx n).drop i.toNat) else stuck
  | _, _ => stuck
end
end PD
namespace PD
open PySem PySem.Spec L2
open PyProof.Rows hiding St
section
variable {X : Cx} {W : Wd} {Wx : WX} {ρ : Ro} {a b c e : Expr} {m1 m2 m3 : M D} {mq mq2 : M (Bool × List D)} {p pos : Pos} {k : Nat}
def mChain (f f' : D → D → M D) (m1 m2 m3 : M D) : M D := m1 >>= fun x => m2 >>= fun y => (f x y >>= asB) >>= fun t => if t = true then m3 >>= fun z => f' y z else pure (.bl false)
theorem pd_chain {op op' : CmpOp} {r r' : R2} {f f' : D → D → M D} (ho : OpR X (compareOp op) r) (h : OpD W r f) (ho' : OpR X (compareOp op') r') (h' : OpD W r' f') (ha : PDe X W Wx a ρ m1) (hb : PDe X W Wx b ρ m2) (hc : PDe X W Wx c ρ m3)
    (hm : lastMarks [op, op'] [b, c] = false := by with_unfolding_all rfl) : PDe X W Wx (.Compare a [op, op'] [b, c] pos) ρ (mChain f f' m1 m2 m3) := by
  refine ⟨PEw (pe_chain ho ho' ha.p hb.p hc.p hm) fun σ H Q ⟨B, μ, F, g, a, q⟩ => ?_⟩
  refine ⟨B, μ, F, g, a, (Run.bind q fun _ z => z).mono (fun _ z => z) fun d1 g1 μ1 F1 H1 f1 r1 q1 v1 p1 => ?_⟩
  have a1 := a.fu f1 (fun _ z => z) r1
  refine ⟨B, μ1, F1, g1, a1, (Run.bind q1 fun _ z => z).mono (fun _ z => z) fun d2 g2 μ2 F2 H2 f2 r2 q2 v2 p2 => ?_⟩
  have a2 := a1.fu f2 (fun _ z => z) r2
  have q3 := Run.bind (B' := B) (Run.bind (B' := B) q2 fun _ z => z) fun _ z => z
  refine h B μ2 F2 H2 g2 v1 v2 d1 d2 _ Wx σ.length a2.gd r2 (p1.mono f2.grow f2.fro) p2 (q3.mono (fun _ z => z) fun d3 g3 μ3 F3 H3 f3 r3 q4 v3 p3 => ?_)
  have a3 := a2.fu f3 (fun _ z => z) r3
  cases p3 with
  | bl t =>
    have q5 := Run.pure (a := t) q4 a3.gd r3
    refine ⟨t, rfl, ?_⟩
    cases t with
    | true =>
      refine ⟨B, μ3, F3, g3, a3, (Run.bind q5 fun _ z => z).mono (fun _ z => z) fun d4 g4 μ4 F4 H4 f4 r4 q6 v4 p4 => ?_⟩
      have a4 := a3.fu f4 (fun _ z => z) r4
      exact h' B μ4 F4 H4 g4 v2 v4 d2 d4 _ Wx σ.length a4.gd r4 ((p2.mono f3.grow f3.fro).mono f4.grow f4.fro) p4 q6
    | false => exact Run.pure (a := D.bl false) q5 a3.gd r3 _ (.bl false)
  | _ => exact q4.elim
theorem pd_chainLeLe (ha : PDe X W Wx a ρ m1) (hb : PDe X W Wx b ρ m2) (hc : PDe X W Wx c ρ m3) (hm : lastMarks [CmpOp.LtE, CmpOp.LtE] [b, c] = false := by with_unfolding_all rfl) : PDe X W Wx (.Compare a [.LtE, .LtE] [b, c] pos) ρ (mChain dLe dLe m1 m2 m3) := pd_chain op_leA opD_cmp op_leA opD_cmp ha hb hc hm
theorem pd_chainLeLt (ha : PDe X W Wx a ρ m1) (hb : PDe X W Wx b ρ m2) (hc : PDe X W Wx c ρ m3) (hm : lastMarks [CmpOp.LtE, CmpOp.Lt] [b, c] = false := by with_unfolding_all rfl) : PDe X W Wx (.Compare a [.LtE, .Lt] [b, c] pos) ρ (mChain dLe dLt m1 m2 m3) := pd_chain op_leA opD_cmp op_ltA opD_cmp ha hb hc hm
theorem pd_chainLtLe (ha : PDe X W Wx a ρ m1) (hb : PDe X W Wx b ρ m2) (hc : PDe X W Wx c ρ m3) (hm : lastMarks [CmpOp.Lt, CmpOp.LtE] [b, c] = false := by with_unfolding_all rfl) : PDe X W Wx (.Compare a [.Lt, .LtE] [b, c] pos) ρ (mChain dLt dLe m1 m2 m3) := pd_chain op_ltA opD_cmp op_leA opD_cmp ha hb hc hm
theorem pd_chainLtLt (ha : PDe X W Wx a ρ m1) (hb : PDe X W Wx b ρ m2) (hc : PDe X W Wx c ρ m3) (hm : lastMarks [CmpOp.Lt, CmpOp.Lt] [b, c] = false := by with_unfolding_all rfl) : PDe X W Wx (.Compare a [.Lt, .Lt] [b, c] pos) ρ (mChain dLt dLt m1 m2 m3) := pd_chain op_ltA opD_cmp op_ltA opD_cmp ha hb hc hm
theorem op_catL {X : Cx} : OpR X (binaryOp .Add) rCat := op_cat
def SeqAt.trk (H : Hp) (vs : List V) (v : V) : Prop := ∃ l, v = .ref l ∧ H l = some (.lst vs)
theorem Rep.trk {μ : List Addr} {F H : Hp} {d : D} {xs : List D} {v : V} (sub : Same F H) (r : Rep W μ F d v) (e : d = .lst xs) : ∃ vs, SeqAt.trk H vs v ∧ Reps W μ F xs vs := by
  subst e
  cases r with
  | lst h rs => exact ⟨_, ⟨_, rfl, sub _ _ h⟩, rs⟩
end
section
variable {X : Cx} {W : Wd} {Wx : WX} {ρ : Ro} {S : Type} {mk : S → Ro} {rest : List Stmt} {a b c e : Expr} {m1 m2 m3 me : M D} {p pos : Pos} {x : Str} {xs : List D}
def asL : D → M (List D)
  | .lst xs => pure xs
  | _ => stuck
def mAddO (xs : List D) (m : M D) : M (List D) := m >>= fun d => asL d >>= fun ys => if xs.length + ys.length ≤ sizeLine then pure (xs ++ ys) else stuck
theorem pn_addO (i : Nat) (hr : ρ[i]? = some (.ol xs)) (hv : PE X (.Name x p) (tVar i)) (he : PDe X W Wx e ρ me) : PDn X W Wx (.BinOp (.Name x p) .Add e pos) ρ (mAddO xs me) :=
  ⟨PEw (pe_op op_cat hv he.p) fun σ H Q ⟨B, μ, F, g, a, q⟩ => by
    have hl : i < σ.length := by rw [← a.rel.len]; exact (List.getElem?_eq_some_iff.mp hr).1
    obtain ⟨l, vs, e0, e1, e2, nm, r⟩ := a.rel.at_ i _ _ hr (List.getElem?_eq_getElem hl)
    have es : σ[i]? = some (some (.ref l)) := by rw [List.getElem?_eq_getElem hl, e0]
    refine ⟨.ref l, es, B, μ, F, g, a, (Run.bind q fun _ z => z).mono (fun _ z => z) fun d g1 μ1 F1 H1 f1 r1 q1 v p1 => ?_⟩
    have a1 := a.fu f1 (fun _ z => z) r1
    have Bl : B l := a.own l ⟨i, _, hr, rfl, es⟩
    have e1' := f1.keep _ _ Bl e1 nm
    cases p1 with
    | @lst b ws ys h rs =>
      have q2 : Run W Wx σ.length B μ1 F1 H1 ((if xs.length + ys.length ≤ sizeLine then pure (xs ++ ys) else stuck : M (List D)) g1) (fun ds _ μ' F' H' => ∀ l vs, H l = none → H' l = some (.lst vs) → F' l = none → (∀ n : Nat, μ'[n]? ≠ some l) → Reps W μ' F' ds vs → Q (.ref l) H') := q1
      by_cases cc : xs.length + ys.length ≤ sizeLine
      · rw [if_pos cc] at q2
        have r' := r.mono f1.grow f1.fro
        refine ⟨l, b, vs, ws, rfl, rfl, e1', r1.sub _ _ h, by rw [← r'.length, ← rs.length]; exact cc, fun p hp => ?_⟩
        exact Run.ownL q2 a1.gd a1.rg hp p _ (stay_none f1 hp) upd_same (free_of a1.rg.sub hp) (a1.rg.notin hp) (r'.append rs)
      · rw [if_neg cc] at q2
        exact q2.elim
    | _ => exact q1.elim⟩
section
variable {α β γ' : Type} {sv : α → SV} {sw : β → SV} {su : γ' → SV} {m : M α} {n : M β} {l : M γ'}
def mThree {γ : Type} (m : M α) (n : M β) (l : M γ') (k : α → β → γ' → M γ) : M γ := m >>= fun x => n >>= fun y => l >>= fun z => k x y z
theorem NewAt.own1 {μ : List Addr} {F H H0 : Hp} {x : SV} {v : V} (h : NewAt W μ F H H0 x v) : ∀ b, x.own = true → v = .ref b → H0 b = none ∧ F b = none ∧ H b ≠ none := by
  intro b o e
  cases x with
  | un => cases o
  | d d => cases o
  | ol xs =>
    obtain ⟨l', vs, e', z0, z1, z2, _⟩ := h
    rw [e] at e'
    cases e'
    exact ⟨z0, z2, by rw [z1]; simp⟩
  | od ks xs =>
    obtain ⟨l', vs, e', z0, z1, z2, _⟩ := h
    rw [e] at e'
    cases e'
    exact ⟨z0, z2, by rw [z1]; simp⟩
theorem NewAt.back {μ : List Addr} {F H H0 H1 : Hp} {x : SV} {v : V} (h : NewAt W μ F H H1 x v) (k : ∀ b, H1 b = none → H0 b = none) : NewAt W μ F H H0 x v := by
  cases x with
  | un => exact h
  | d d => exact h
  | ol xs =>
    obtain ⟨l, vs, e, z0, z⟩ := h
    exact ⟨l, vs, e, k _ z0, z⟩
  | od ks xs =>
    obtain ⟨l, vs, e, z0, z⟩ := h
    exact ⟨l, vs, e, k _ z0, z⟩
theorem AtS.setX3 {B : Addr → Prop} {μ μ1 : List Addr} {F F1 H H1 : Hp} {g g1 : GS} {σ : L2.St} {i j k : Nat} {x y z : SV} {v w u : V} (a : AtS W B μ F H g ρ σ) (a1 : AtS W B μ1 F1 H1 g1 ρ σ) (hx : NewAt W μ1 F1 H1 H x v) (hy : NewAt W μ1 F1 H1 H y w) (hz : NewAt W μ1 F1 H1 H z u)
    (n1 : x.own = true → y.own = true → v ≠ w) (n2 : x.own = true → z.own = true → v ≠ u) (n3 : y.own = true → z.own = true → w ≠ u) : AtS W B μ1 F1 H1 g1 (((ρ.set i x).set j y).set k z) (((σ.set i (some v)).set j (some w)).set k (some u)) := by
  have nB : ∀ l, H l = none → ¬ B l := fun l hl o => (a.gd l o).2 hl
  have b1 := a.setX a1 hx (i := i)
  have no1 : ∀ l, H l = none → y.own = true → w = .ref l → ¬ Owns (ρ.set i x) (σ.set i (some v)) l := fun l hl oy e o => by
    rcases o.set with ⟨o1, e1⟩ | o
    · exact n1 o1 oy (by rw [e]; exact Option.some.inj e1)
    · exact (a.rel.ownAt o).2.1 hl
  have b2 : AtS W B μ1 F1 H1 g1 ((ρ.set i x).set j y) ((σ.set i (some v)).set j (some w)) := by
    cases y with
    | un => exact hy.elim
    | d x => exact b1.setD hy
    | ol xs =>
      obtain ⟨l, vs, rfl, e0, e1, e2, e3, r⟩ := hy
      exact b1.setN (no1 l e0 rfl rfl) (nB l e0) e1 e2 e3 r
    | od ks xs =>
      obtain ⟨l, vs, rfl, e0, e1, e2, e3, e4, r⟩ := hy
      exact b1.setM (no1 l e0 rfl rfl) (nB l e0) e1 e2 e3 e4 r
  have no2 : ∀ l, H l = none → z.own = true → u = .ref l → ¬ Owns ((ρ.set i x).set j y) ((σ.set i (some v)).set j (some w)) l := fun l hl oz e o => by
    rcases o.set with ⟨o1, e1⟩ | o
    · exact n3 o1 oz (by rw [e]; exact Option.some.inj e1)
    · rcases o.set with ⟨o1, e1⟩ | o
      · exact n2 o1 oz (by rw [e]; exact Option.some.inj e1)
      · exact (a.rel.ownAt o).2.1 hl
  cases z with
  | un => exact hz.elim
  | d x => exact b2.setD hz
  | ol xs =>
    obtain ⟨l, vs, rfl, e0, e1, e2, e3, r⟩ := hz
    exact b2.setN (no2 l e0 rfl rfl) (nB l e0) e1 e2 e3 r
  | od ks xs =>
    obtain ⟨l, vs, rfl, e0, e1, e2, e3, e4, r⟩ := hz
    exact b2.setM (no2 l e0 rfl rfl) (nB l e0) e1 e2 e3 e4 r
theorem NewAt.fresh_ne {μ μ' : List Addr} {F F' H H' H0 H1 : Hp} {x y : SV} {v w : V} (h : NewAt W μ F H H0 x v) (h2 : NewAt W μ' F' H' H y w) : x.own = true → y.own = true → v ≠ w := by
  intro o1 o2 e
  cases y with
  | un => cases o2
  | d d => cases o2
  | ol xs =>
    obtain ⟨l, vs, e', z0, _⟩ := h2
    exact (h.own1 l o1 (by rw [e, e'])).2.2 z0
  | od ks xs =>
    obtain ⟨l, vs, e', z0, _⟩ := h2
    exact (h.own1 l o1 (by rw [e, e'])).2.2 z0
theorem three_core {e1 e2 e3 : Expr} (h1 : PDx X W Wx e1 ρ m sv) (h2 : PDx X W Wx e2 ρ n sw) (h3 : PDx X W Wx e3 ρ l su) (s1 : starEach [e1, e2, e3] X.env = (false, eval e1 X.env) :: starEach [e2, e3] X.env) (s2 : starEach [e2, e3] X.env = (false, eval e2 X.env) :: starEach [e3] X.env) (s3 : starEach [e3] X.env = (false, eval e3 X.env) :: starEach [] X.env) : ∃ ta, PA X [e1, e2, e3] ta ∧
    ∀ {γ : Type} (k : α → β → γ' → M γ) (B : Addr → Prop) (μ : List Addr) (F H : Hp) (g : GS) (σ : L2.St) (P : γ → GS → List Addr → Hp → Hp → Prop) (Q : List V → Hp → Prop), AtS W B μ F H g ρ σ → Run W Wx σ.length B μ F H ((mThree m n l k) g) P →
      (∀ x y z v w u μ2 F2 H2 g2, Fu B μ F H μ2 F2 H2 → AtS W B μ2 F2 H2 g2 ρ σ → NewAt W μ2 F2 H2 H (sv x) v → NewAt W μ2 F2 H2 H (sw y) w → NewAt W μ2 F2 H2 H (su z) u → ((sv x).own = true → (sw y).own = true → v ≠ w) → ((sv x).own = true → (su z).own = true → v ≠ u) → ((sw y).own = true → (su z).own = true → w ≠ u) →
        Run W Wx σ.length B μ2 F2 H2 (k x y z g2) P → Q [v, w, u] H2) → ta σ H Q := by
  refine ⟨_, pa_cons h1.p (pa_cons h2.p (pa_cons h3.p pa_nil s3) s2) s1, ?_⟩
  intro γ k B μ F H g σ P Q a q kk
  refine ⟨_, μ, F, g, a.at_, (Run.bind q fun _ z => .inl z).mono (fun _ z => z) fun x g1 μ1 F1 H1 f1 r1 q1 v p1 => ?_⟩
  have a1 := a.fu f1 (fun _ z => z) r1
  let B1 : Addr → Prop := fun b => (B b ∨ Owns ρ σ b) ∨ ((sv x).own = true ∧ v = .ref b)
  have at1 : At W B1 μ1 F1 H1 g1 ρ σ := ⟨fun b z => z.elim (fun z => a1.at_.gd b z) fun z => ⟨(p1.own1 b z.1 z.2).2.1, (p1.own1 b z.1 z.2).2.2⟩, a1.rel, a1.rg, fun b z => .inl (.inr z)⟩
  refine ⟨B1, μ1, F1, g1, at1, (Run.bind q1 fun _ z => .inl (.inl z)).mono (fun _ z => z) fun y g2 μ2 F2 H2 f2 r2 q2 w p2 => ?_⟩
  have a2 := a1.fu f2 (fun _ z => .inl z) r2
  have p1' := p1.fu f2 fun b o e => .inr ⟨o, e⟩
  let B2 : Addr → Prop := fun b => B1 b ∨ ((sw y).own = true ∧ w = .ref b)
  have at2 : At W B2 μ2 F2 H2 g2 ρ σ := ⟨fun b z => z.elim (fun z => (at1.gd.fu f2 fun _ z => z) b z) fun z => ⟨(p2.own1 b z.1 z.2).2.1, (p2.own1 b z.1 z.2).2.2⟩, a2.rel, a2.rg, fun b z => .inl (.inl (.inr z))⟩
  refine ⟨B2, μ2, F2, g2, at2, (Run.bind q2 fun _ z => .inl (.inl (.inl z))).mono (fun _ z => z) fun z g3 μ3 F3 H3 f3 r3 q3 u p3 => ?_⟩
  have a3 := a2.fu f3 (fun _ z => .inl (.inl z)) r3
  have p1'' := p1'.fu f3 fun b o e => .inl (.inr ⟨o, e⟩)
  have p2' := p2.fu f3 fun b o e => .inr ⟨o, e⟩
  have k1 : ∀ b, H1 b = none → H b = none := fun b hb => stay_none f1 hb
  have k2 : ∀ b, H2 b = none → H b = none := fun b hb => stay_none f1 (stay_none f2 hb)
  exact kk x y z v w u μ3 F3 H3 g3 (((f1.less fun _ z => .inl z).trans (f2.less fun _ z => .inl (.inl z)) fun _ z => z).trans (f3.less fun _ z => .inl (.inl (.inl z))) fun _ z => z) a3 p1'' (p2'.back k1) (p3.back k2) (p1.fresh_ne (H1 := H1) p2) (p1'.fresh_ne (H1 := H1) p3) (p2.fresh_ne (H1 := H1) p3) q3
theorem ds_parT (i j o : Nat) {x y z : Str} {e1 e2 e3 : Expr} {k : α → β → γ' → M (Fl S)} {px py pz pt pos : Pos} {kt k2 : Nat} {pt2 : Pos} (hc : X.calm = true) (hN : X.N.Nodup) (h1 : PDx X W Wx e1 ρ m sv) (h2 : PDx X W Wx e2 ρ n sw) (h3 : PDx X W Wx e3 ρ l su) (hr : ∀ a b c, PDs X W Wx rest (((ρ.set i (sv a)).set j (sw b)).set o (su c)) mk (k a b c))
    (hij : i ≠ j := by decide) (hio : i ≠ o := by decide) (hjo : j ≠ o := by decide) (hi : X.N[i]? = some x := by rfl) (hj : X.N[j]? = some y := by rfl) (ho : X.N[o]? = some z := by rfl) (hx : X.env.scope.names.lookup x = some .local := by rfl) (hy : X.env.scope.names.lookup y = some .local := by rfl) (hz : X.env.scope.names.lookup z = some .local := by rfl)
    (hw : swappedStores [.Tuple [.Name x px, .Name y py, .Name z pz] kt pt] (.Tuple [e1, e2, e3] k2 pt2) X.env = pure (some [x, y, z]) := by rfl) (hs : swapsWithSole [.Tuple [.Name x px, .Name y py, .Name z pz] kt pt] (.Tuple [e1, e2, e3] k2 pt2) pos.line X.env = pure false := by rfl)
    (s1 : starEach [e1, e2, e3] X.env = (false, eval e1 X.env) :: starEach [e2, e3] X.env := by rfl) (s2 : starEach [e2, e3] X.env = (false, eval e2 X.env) :: starEach [e3] X.env := by rfl) (s3 : starEach [e3] X.env = (false, eval e3 X.env) :: starEach [] X.env := by rfl) :
    PDs X W Wx (.Assign [.Tuple [.Name x px, .Name y py, .Name z pz] kt pt] (.Tuple [e1, e2, e3] k2 pt2) pos :: rest) ρ mk (mThree m n l k) := by
  obtain ⟨ta, ha, hta⟩ := three_core h1 h2 h3 s1 s2 s3
  refine ⟨PSsw (pss_cons (ps_par3 hc hN hi hj ho hij hio hjo hx hy hz ha hw hs) (u := fun D σ H => ∃ a b c, tS W Wx (((ρ.set i (sv a)).set j (sw b)).set o (su c)) mk (k a b c) D σ H) ⟨fun pins s σ H D I ⟨a, b, c, q⟩ => (hr a b c).p.run pins s σ H D I q⟩) ?_⟩
  intro D0 σ H ⟨B, μ, F, g, a, q⟩
  refine hta k B μ F H g σ _ _ a q fun c d f v w u μ2 F2 H2 g2 f2 a2 p1 p2 p3 n1 n2 n3 q2 => ?_
  exact ⟨v, w, u, rfl, c, d, f, B, μ2, F2, g2, a.setX3 a2 p1 p2 p3 n1 n2 n3, by rw [List.length_set, List.length_set, List.length_set]; exact q2⟩
theorem NewAt.laid {μ : List Addr} {F H H0 : Hp} {x : SV} {v : V} {p : Addr} {o : HO} (h : NewAt W μ F H H0 x v) (hp : H p = none) : NewAt W μ F (upd H p o) H0 x v := by
  cases x with
  | un => exact h
  | d x => exact h
  | ol xs =>
    obtain ⟨l, vs, e, e0, e1, z⟩ := h
    exact ⟨l, vs, e, e0, by rw [upd_ne (ne_of_none e1 hp)]; exact e1, z⟩
  | od ks xs =>
    obtain ⟨l, vs, e, e0, e1, z⟩ := h
    exact ⟨l, vs, e, e0, by rw [upd_ne (ne_of_none e1 hp)]; exact e1, z⟩
theorem ds_parTC (i j o : Nat) {x y z : Str} {e1 e2 e3 : Expr} {k : α → β → γ' → M (Fl S)} {px py pz pt pos : Pos} {kt k2 : Nat} {pt2 : Pos} (hc : X.calm = true) (hN : X.N.Nodup) (h1 : PDx X W Wx e1 ρ m sv) (h2 : PDx X W Wx e2 ρ n sw) (h3 : PDx X W Wx e3 ρ l su) (hr : ∀ a b c, PDs X W Wx rest (((ρ.set i (sv a)).set j (sw b)).set o (su c)) mk (k a b c))
    (hi : X.N[i]? = some x := by rfl) (hj : X.N[j]? = some y := by rfl) (ho : X.N[o]? = some z := by rfl) (hx : Loc X.env.scope x := by first | exact .inl rfl | exact .inr rfl) (hy : Loc X.env.scope y := by first | exact .inl rfl | exact .inr rfl) (hz : Loc X.env.scope z := by first | exact .inl rfl | exact .inr rfl)
    (hw : swappedStores [.Tuple [.Name x px, .Name y py, .Name z pz] kt pt] (.Tuple [e1, e2, e3] k2 pt2) X.env = pure none := by rfl) (hs : swapsWithSole [.Tuple [.Name x px, .Name y py, .Name z pz] kt pt] (.Tuple [e1, e2, e3] k2 pt2) pos.line X.env = pure false := by rfl)
    (s1 : starEach [e1, e2, e3] X.env = (false, eval e1 X.env) :: starEach [e2, e3] X.env := by rfl) (s2 : starEach [e2, e3] X.env = (false, eval e2 X.env) :: starEach [e3] X.env := by rfl) (s3 : starEach [e3] X.env = (false, eval e3 X.env) :: starEach [] X.env := by rfl)
    (hn1 : (assignEach [.Name x px, .Name y py, .Name z pz] X.env).length = 3 := by rfl) (hst : (assignEach [.Name x px, .Name y py, .Name z pz] X.env).findIdx? (·.1) = none := by rfl)
    (hf : X.fn x = true ∨ X.env.scope.names.lookup x = some .local := by first | exact .inl rfl | exact .inr rfl) (hf2 : X.fn y = true ∨ X.env.scope.names.lookup y = some .local := by first | exact .inl rfl | exact .inr rfl) (hf3 : X.fn z = true ∨ X.env.scope.names.lookup z = some .local := by first | exact .inl rfl | exact .inr rfl) :
    PDs X W Wx (.Assign [.Tuple [.Name x px, .Name y py, .Name z pz] kt pt] (.Tuple [e1, e2, e3] k2 pt2) pos :: rest) ρ mk (mThree m n l k) := by
  obtain ⟨ta, ha, hta⟩ := three_core h1 h2 h3 s1 s2 s3
  have pg : PG X (.Tuple [.Name x px, .Name y py, .Name z pz] kt pt) (gTup X.K 3 (gCons (gName i) (gCons (gName j) (gCons (gName o) gNil)))) := pg_tup hc (pgs_cons (pg_name hN hi hx (hf := hf)) (pgs_cons (pg_name hN hj hy (hf := hf2)) (pgs_cons (pg_name hN ho hz (hf := hf3)) pgs_nil))) hn1 hst
  refine ⟨PSsw (pss_cons (ps_asg (pe_tup ha) pg hs hw) (u := fun D σ H => ∃ a b c, tS W Wx (((ρ.set i (sv a)).set j (sw b)).set o (su c)) mk (k a b c) D σ H) ⟨fun pins s σ H D I ⟨a, b, c, q⟩ => (hr a b c).p.run pins s σ H D I q⟩) ?_⟩
  intro D0 σ H ⟨B, μ, F, g, a, q⟩
  refine hta k B μ F H g σ _ _ a q fun c d f v w u μ2 F2 H2 g2 f2 a2 p1 p2 p3 n1 n2 n3 q2 => ?_
  refine ⟨by show 3 ≤ sizeLine; decide, fun p hp => ⟨p, [v, w, u], rfl, SqT.of upd_same, rfl, v, _, rfl, w, _, rfl, u, [], rfl, rfl, ?_⟩⟩
  have fu := Fu.own (B := fun b => B b ∨ Owns ρ σ b) (μ := μ2) (F := F2) (o := .tup [v, w, u]) a2.at_.gd hp
  have a3 := a2.fu fu (fun _ z => z) (a2.rg.own hp)
  exact ⟨c, d, f, B, μ2, F2, g2, a.setX3 a3 (p1.laid hp) (p2.laid hp) (p3.laid hp) n1 n2 n3, by rw [List.length_set, List.length_set, List.length_set]; exact q2.later fu fun _ z => .inl z⟩
end
end
end PD
namespace PD
open PySem PySem.Spec L2
open PyProof.Rows hiding St
def inner (s : Stmt) (j : Nat) : Stmt := match s with
  | .ClassDef _ _ _ b _ _ _ _ _ _ _ => b.getD j (.Pass ⟨0, 0, 0, 0⟩)
  | _ => .Pass ⟨0, 0, 0, 0⟩
abbrev WK (K : PySem.W.Frag) : Wd := ⟨K, He.ga K⟩
def pgA (K : PySem.W.Frag) (C f : Str) : Addr := match PySem.W.recIn K (He.ma K (He.ga K C) f) "property" with
  | some (.ref g :: _) => g
  | _ => 0
end PD
namespace PD
open PySem PySem.Spec L2
open PyProof.Rows hiding St
theorem FnI.mono {P : Program} {w : World} {K : PySem.W.Frag} {mg : Str → Option Value} {base : Heap} {W : Wd} {i k : Nat} {f C : Addr} {m : List D → M D} {j : Nat} {g : List D → List D → List D} (F : FnI P w K mg base W i f C m j g) (h : i ≤ k) : FnI P w K mg base W k f C m j g := by
  obtain ⟨fd, ps, n, gu, gV, F1, r⟩ := F.ex
  exact ⟨fd, ps, n, gu, gV, F1.mono h, r⟩
end PD
namespace PD
open PySem PySem.Spec L2
open PyProof.Rows hiding St
section
variable {X : Cx} {W : Wd} {Wx : WX}
theorem tg2K (K0 : PySem.W.Frag) (eK : X.K = K0) (i j : Nat) {x y : Str} {px py pos : Pos} {kt : Nat} (hK : W.K = X.K) (hc : X.calm = true) (hN : X.N.Nodup) (hi : X.N[i]? = some x := by rfl) (hj : X.N[j]? = some y := by rfl) (hx : Loc X.env.scope x := by first | exact .inl rfl | exact .inr rfl) (hy : Loc X.env.scope y := by first | exact .inl rfl | exact .inr rfl)
    (hn1 : (assignEach [.Name x px, .Name y py] X.env).length = 2 := by rfl) (hst : (assignEach [.Name x px, .Name y py] X.env).findIdx? (·.1) = none := by rfl)
    (hf : X.fn x = true ∨ X.env.scope.names.lookup x = some .local := by first | exact .inl rfl | exact .inr rfl) (hf2 : X.fn y = true ∨ X.env.scope.names.lookup y = some .local := by first | exact .inl rfl | exact .inr rfl) :
    TgD X W Wx (.Tuple [.Name x px, .Name y py] kt pos) (gTup K0 2 (gCons (gName i) (gCons (gName j) gNil))) (γ := D × D) (fun k d => on2 k d) (fun c ρ => (ρ.set i (.d c.1)).set j (.d c.2)) [i, j] := by
  subst eK
  exact tg2 i j hK hc hN hi hj hx hy hn1 hst hf hf2
theorem tg3K (K0 : PySem.W.Frag) (eK : X.K = K0) (i j l : Nat) {x y z : Str} {px py pz pos : Pos} {kt : Nat} (hK : W.K = X.K) (hc : X.calm = true) (hN : X.N.Nodup) (hi : X.N[i]? = some x := by rfl) (hj : X.N[j]? = some y := by rfl) (hl : X.N[l]? = some z := by rfl) (hx : Loc X.env.scope x := by first | exact .inl rfl | exact .inr rfl) (hy : Loc X.env.scope y := by first | exact .inl rfl | exact .inr rfl) (hz : Loc X.env.scope z := by first | exact .inl rfl | exact .inr rfl)
    (hn1 : (assignEach [.Name x px, .Name y py, .Name z pz] X.env).length = 3 := by rfl) (hst : (assignEach [.Name x px, .Name y py, .Name z pz] X.env).findIdx? (·.1) = none := by rfl)
    (hf : X.fn x = true ∨ X.env.scope.names.lookup x = some .local := by first | exact .inl rfl | exact .inr rfl) (hf2 : X.fn y = true ∨ X.env.scope.names.lookup y = some .local := by first | exact .inl rfl | exact .inr rfl) (hf3 : X.fn z = true ∨ X.env.scope.names.lookup z = some .local := by first | exact .inl rfl | exact .inr rfl) :
    TgD X W Wx (.Tuple [.Name x px, .Name y py, .Name z pz] kt pos) (gTup K0 3 (gCons (gName i) (gCons (gName j) (gCons (gName l) gNil)))) (γ := D × D × D) (fun k d => on3 k d) (fun c ρ => ((ρ.set i (.d c.1)).set j (.d c.2.1)).set l (.d c.2.2)) [i, j, l] := by
  subst eK
  exact tg3 i j l hK hc hN hi hj hl hx hy hz hn1 hst hf hf2 hf3
theorem tg4K (K0 : PySem.W.Frag) (eK : X.K = K0) (i j l o : Nat) {x y z u : Str} {px py pz pu pos : Pos} {kt : Nat} (hK : W.K = X.K) (hc : X.calm = true) (hN : X.N.Nodup) (hi : X.N[i]? = some x := by rfl) (hj : X.N[j]? = some y := by rfl) (hl : X.N[l]? = some z := by rfl) (ho : X.N[o]? = some u := by rfl)
    (hx : Loc X.env.scope x := by first | exact .inl rfl | exact .inr rfl) (hy : Loc X.env.scope y := by first | exact .inl rfl | exact .inr rfl) (hz : Loc X.env.scope z := by first | exact .inl rfl | exact .inr rfl) (hu : Loc X.env.scope u := by first | exact .inl rfl | exact .inr rfl)
    (hn1 : (assignEach [.Name x px, .Name y py, .Name z pz, .Name u pu] X.env).length = 4 := by rfl) (hst : (assignEach [.Name x px, .Name y py, .Name z pz, .Name u pu] X.env).findIdx? (·.1) = none := by rfl)
    (hf : X.fn x = true ∨ X.env.scope.names.lookup x = some .local := by first | exact .inl rfl | exact .inr rfl) (hf2 : X.fn y = true ∨ X.env.scope.names.lookup y = some .local := by first | exact .inl rfl | exact .inr rfl) (hf3 : X.fn z = true ∨ X.env.scope.names.lookup z = some .local := by first | exact .inl rfl | exact .inr rfl) (hf4 : X.fn u = true ∨ X.env.scope.names.lookup u = some .local := by first | exact .inl rfl | exact .inr rfl) :
    TgD X W Wx (.Tuple [.Name x px, .Name y py, .Name z pz, .Name u pu] kt pos) (gTup K0 4 (gCons (gName i) (gCons (gName j) (gCons (gName l) (gCons (gName o) gNil))))) (γ := D × D × D × D) (fun k d => on4 k d) (fun c ρ => (((ρ.set i (.d c.1)).set j (.d c.2.1)).set l (.d c.2.2.1)).set o (.d c.2.2.2)) [i, j, l, o] := by
  subst eK
  exact tg4 i j l o hK hc hN hi hj hl ho hx hy hz hu hn1 hst hf hf2 hf3 hf4
end
end PD
namespace PD
open PySem PySem.Spec L2
open PyProof.Rows hiding St
structure DfA where
  at_ : PySem.W.Frag → Addr
  name : Str
  qual : Str
  st : Stmt
  dv : PySem.W.Frag → List V := fun _ => []
def fnAt (K : PySem.W.Frag) (a : Addr) : He.FnW := match K.lookup a with
  | some ⟨_, _, .func fd, _⟩ => some (fd.name, fd.qualname, fd.params, fd.body, fd.scope, fd.globals, fd.closure, fd.builtins)
  | _ => none
def DfA.val (d : DfA) : He.FnW := some (d.name, d.qual, defArgs d.st, .stmts (defBody d.st), defScope d.st, mainGlobals, [], builtinsNs)
def DfA.ok (K : PySem.W.Frag) (d : DfA) : Bool := PySem.W.keepIn K (.ref (d.at_ K)) && (match K.lookup (d.at_ K) with
  | some ⟨_, _, .func fd, _⟩ => PySem.W.codeIn K fd.code d.qual && (He.dflB K fd.defaults (d.dv K) && He.kwdB K fd.kwdefaults [])
  | _ => false)
theorem DfA.funD {K : PySem.W.Frag} {d : DfA} (e : fnAt K (d.at_ K) = d.val) (c : d.ok K = true) : ∃ fd, FunD K d.name d.qual (defArgs d.st) (defBody d.st) (defScope d.st) (d.dv K) [] (d.at_ K) fd := by
  obtain ⟨kp, c2⟩ := He.ba c
  unfold fnAt at e
  cases q : K.lookup (d.at_ K) with
  | none => rw [q] at c2; cases c2
  | some o =>
    obtain ⟨oc, od, dt, osl⟩ := o
    rw [q] at c2 e
    cases dt with
    | func fd =>
      obtain ⟨n1, n2, n3, n4, n5, n6, n7, n8, n9, n10, n11, n12, n13, n14, n15⟩ := fd
      have e3 : (some (n1, n2, n3, n4, n5, n6, n7, n15) : He.FnW) = some (d.name, d.qual, defArgs d.st, .stmts (defBody d.st), defScope d.st, mainGlobals, [], builtinsNs) := e
      simp only [Option.some.injEq, Prod.mk.injEq] at e3
      obtain ⟨z1, z2, z3, z4, z5, z6, z7, z8⟩ := e3
      subst z1 z2 z3 z4 z5 z6 z7 z8
      have c4 : (PySem.W.codeIn K n13 d.qual && (He.dflB K n8 (d.dv K) && He.kwdB K n9 [])) = true := c2
      obtain ⟨y1, y2⟩ := He.ba c4
      obtain ⟨y3, y4⟩ := He.ba y2
      exact ⟨_, ⟨oc, od, n8, n9, n10, n11, n12, n13, n14, osl, rfl, q, y1, He.dflB_ok y3, He.kwdB_ok y4⟩, kp⟩
    | _ => cases c2
abbrev AlP : Type := Bool × List He.FnW × List (Option (List (Option (Str × Int))))
def obsP (cs : List (PySem.W.Frag → Bool)) (fn : List DfA) (ts : List He.Tab) (K : PySem.W.Frag) : AlP := ((cs.all fun f => f K) && fn.all fun d => d.ok K, fn.map fun d => fnAt K (d.at_ K), ts.map fun t => He.dicW K (t.1 K))
def valP (fn : List DfA) (ts : List He.Tab) (w : World) : AlP := (true, fn.map DfA.val, ts.map fun t => some (He.keysIn w.params t.2))
def obsPG (n : Nat) (cs : List (PySem.W.Frag → Bool)) (fn : List DfA) (ts : List He.Tab) (g : Addr → Option Obj) : AlP := obsP cs fn ts (He.frG g (He.asD g n))
def obsPL (as : List Addr) (cs : List (PySem.W.Frag → Bool)) (fn : List DfA) (ts : List He.Tab) (g : Addr → Option Obj) : AlP := obsP cs fn ts (He.frG g as)
def SaysP (cs : List (PySem.W.Frag → Bool)) (fn : List DfA) (ts : List He.Tab) (w : World) (K : PySem.W.Frag) : Prop := obsP cs fn ts K = valP fn ts w
def hookP (n : Nat) (cs : List (PySem.W.Frag → Bool)) (fn : List DfA) (ts : List He.Tab) : PySem.W.Hook where
  α := AlP
  obs := fun s => obsPG n cs fn ts s.heap.get?
  val := fun w => valP fn ts w
  says := fun w h => ∃ K : PySem.W.Frag, K.In h ∧ SaysP cs fn ts w K
  of := fun _ _ e => ⟨_, He.frG_in, e⟩
  keeps := fun _ _ _ ⟨K, hK, c⟩ k => ⟨K, PySem.W.Frag.In.keeps hK k, c⟩
def hookL (as : List Addr) (cs : List (PySem.W.Frag → Bool)) (fn : List DfA) (ts : List He.Tab) : PySem.W.Hook where
  α := AlP
  obs := fun s => obsPL as cs fn ts s.heap.get?
  val := fun w => valP fn ts w
  says := fun w h => ∃ K : PySem.W.Frag, K.In h ∧ SaysP cs fn ts w K
  of := fun _ _ e => ⟨_, He.frG_in, e⟩
  keeps := fun _ _ _ ⟨K, hK, c⟩ k => ⟨K, PySem.W.Frag.In.keeps hK k, c⟩
theorem obsPL_eq {as : List Addr} {cs : List (PySem.W.Frag → Bool)} {fn : List DfA} {ts : List He.Tab} {g : Addr → Option Obj} {s : Shared} (h : ∀ a, g a = s.heap.get? a) : obsPL as cs fn ts g = (hookL as cs fn ts).obs s := by
  have e : g = s.heap.get? := funext h
  rw [e]
  rfl
theorem obsPG_eq {n : Nat} {cs : List (PySem.W.Frag → Bool)} {fn : List DfA} {ts : List He.Tab} {g : Addr → Option Obj} {s : Shared} (h : ∀ a, g a = s.heap.get? a) : obsPG n cs fn ts g = (hookP n cs fn ts).obs s := by
  have e : g = s.heap.get? := funext h
  rw [e]
  rfl
section
variable {cs : List (PySem.W.Frag → Bool)} {fn : List DfA} {ts : List He.Tab} {w : World} {K : PySem.W.Frag}
theorem SaysP.chk (c : SaysP cs fn ts w K) (i : Nat) {f : PySem.W.Frag → Bool} (h : cs[i]? = some f := by rfl) : f K = true := by
  have z := (He.ba (show ((cs.all fun f => f K) && fn.all fun d => d.ok K) = true from congrArg (fun z : AlP => z.1) c)).1
  exact List.all_eq_true.mp z f (List.mem_of_getElem? h)
theorem SaysP.df (c : SaysP cs fn ts w K) (i : Nat) {d : DfA} (h : fn[i]? = some d := by rfl) : ∃ fd, FunD K d.name d.qual (defArgs d.st) (defBody d.st) (defScope d.st) (d.dv K) [] (d.at_ K) fd := by
  have z := (He.ba (show ((cs.all fun f => f K) && fn.all fun d => d.ok K) = true from congrArg (fun z : AlP => z.1) c)).2
  have e : (fn.map fun d => fnAt K (d.at_ K)) = fn.map DfA.val := congrArg (fun z : AlP => z.2.1) c
  have e2 : (fn.map fun d => fnAt K (d.at_ K))[i]? = (fn.map DfA.val)[i]? := by rw [e]
  rw [List.getElem?_map, List.getElem?_map, h] at e2
  exact DfA.funD (Option.some.inj e2) (List.all_eq_true.mp z d (List.mem_of_getElem? h))
theorem SaysP.tab (c : SaysP cs fn ts w K) (i : Nat) {t : He.Tab} (h : ts[i]? = some t := by rfl) : He.dicW K (t.1 K) = some (He.keysIn w.params t.2) := by
  have e : (ts.map fun t => He.dicW K (t.1 K)) = ts.map fun t => some (He.keysIn w.params t.2) := congrArg (fun z : AlP => z.2.2) c
  have e2 : (ts.map fun t => He.dicW K (t.1 K))[i]? = (ts.map fun t => some (He.keysIn w.params t.2))[i]? := by rw [e]
  rw [List.getElem?_map, List.getElem?_map, h] at e2
  exact Option.some.inj e2
end
def bo {α : Type} [DecidableEq α] (a b : α) : Bool := decide (a = b)
theorem bo_ok {α : Type} [DecidableEq α] {a b : α} (h : bo a b = true) : a = b := of_decide_eq_true h
abbrev FK := PySem.W.Frag
def cProp (C f : Str) (K : FK) : Bool := bo (PySem.W.findIn K (.ref (He.ga K C)) f) (some (some (.ref (He.ma K (He.ga K C) f)))) && (bo (PySem.W.specialIn K (.ref (He.ma K (He.ga K C) f)) "__get__") (some (some (.builtin "property.__get__"))) &&
  (bo (PySem.W.takesIn K (.ref (He.ma K (He.ga K C) f))) (some true) && (match PySem.W.recIn K (He.ma K (He.ga K C) f) "property" with
    | some (.ref g :: _) => true
    | _ => false)))
theorem cProp_ok {C f : Str} {K : FK} (h : cProp C f K = true) : PropOf K (He.ga K C) f (He.ma K (He.ga K C) f) (pgA K C f) := by
  obtain ⟨h1, h⟩ := He.ba h
  obtain ⟨h2, h⟩ := He.ba h
  obtain ⟨h3, h4⟩ := He.ba h
  refine ⟨bo_ok h1, bo_ok h2, bo_ok h3, ?_⟩
  unfold pgA
  cases e : PySem.W.recIn K (He.ma K (He.ga K C) f) "property" with
  | none => rw [e] at h4; cases h4
  | some l =>
    rw [e] at h4
    cases l with
    | nil => cases h4
    | cons v r =>
      cases v with
      | ref g => exact ⟨r, rfl⟩
      | _ => cases h4
def cFind (C f : Str) (K : FK) : Bool := bo (PySem.W.findIn K (.ref (He.ga K C)) f) (some (some (.ref (He.fAd K (C, some f))))) && PySem.W.isFn K (.ref (He.fAd K (C, some f)))
def cKin (C : Str) (K : FK) : Bool := (He.Fa.cls C).ok K && (bo (PySem.W.findIn K (.ref (He.ga K C)) "__class__") (some (some (.builtin "object.__class__"))) && (bo (PySem.W.specialIn K (.builtin "object.__class__") "__get__") (some (some (.builtin "getset_descriptor.__get__"))) &&
  (bo (PySem.W.takesIn K (.builtin "object.__class__")) (some true) && bo (PySem.W.mroIn K (He.ga K C) (.type "object")) (some true))))
theorem cKin_ok {C : Str} {K : FK} (h : cKin C K = true) : Kin K (He.ga K C) := by
  obtain ⟨h1, h⟩ := He.ba h
  obtain ⟨h2, h⟩ := He.ba h
  obtain ⟨h3, h⟩ := He.ba h
  obtain ⟨h4, h5⟩ := He.ba h
  exact ⟨He.cls_ok h1, bo_ok h2, bo_ok h3, bo_ok h4, bo_ok h5⟩
def cTbl (C : Str) (tbl : List (TyN × Bool)) (K : FK) : Bool := tbl.all fun p => bo (PySem.W.kitOne K (tyW (WK K) p.1) (.ref (He.ga K C))) (some p.2)
def ownOf : TyN → Option Str
  | .inl _ => none
  | .inr c => some c
theorem cTbl_ok {C : Str} {tbl : List (TyN × Bool)} {K : FK} (h : cTbl C tbl K = true) (hk : ∀ c ∈ tbl.filterMap (fun p => ownOf p.1), Kin K (He.ga K c)) : Tbl K (WK K) (.ref (He.ga K C)) tbl :=
  ⟨fun t b hm => bo_ok (List.all_eq_true.mp h (t, b) hm), fun c b hm => hk c (List.mem_filterMap.mpr ⟨(.inr c, b), hm, rfl⟩)⟩
def cOex (C fld : Str) (K : FK) : Bool := (match K.lookup (He.ga K C) with
  | some ⟨.type t, _, .cls cd, sl⟩ => decide (t = "type") && ((match cd.mro with
    | .ref C' :: bm => decide (C' = He.ga K C) && PySem.HandSPX.refsVE bm
    | _ => false) && (cd.hasDict && (!cd.hasDel && (match sl with
    | ⟨[_, _, _, _, some (.builtin n), _]⟩ => decide (n = "ValueError.__new__")
    | _ => false))))
  | _ => false) && (bo (PySem.W.findIn K (.ref (He.ga K C)) "__setattr__") (some (some (.builtin "object.__setattr__"))) && (bo (PySem.W.subIn K (.ref (He.ga K C)) (.type "BaseException")) (some true) && (bo (PySem.W.typeIn K (.ref (He.ga K C))) (some (.type "type")) &&
  (PySem.W.keepIn K (.ref (He.ga K C)) && (bo (PySem.W.findIn K (.ref (He.ga K C)) "__init__") (some (some (.ref (He.fAd K (C, some "__init__"))))) && (bo (PySem.W.typeIn K (.ref (He.fAd K (C, some "__init__")))) (some (.type "function")) && bo (PySem.W.findIn K (.ref (He.ga K C)) fld) (some none)))))))
theorem cOex_ok {C fld : Str} {K : FK} (h : cOex C fld K = true) : OexC K (He.ga K C) ∧ PySem.W.findIn K (.ref (He.ga K C)) "__init__" = some (some (.ref (He.fAd K (C, some "__init__")))) ∧ PySem.W.typeIn K (.ref (He.fAd K (C, some "__init__"))) = some (.type "function") ∧ PySem.W.findIn K (.ref (He.ga K C)) fld = some none := by
  obtain ⟨h0, h⟩ := He.ba h
  obtain ⟨h1, h⟩ := He.ba h
  obtain ⟨h2, h⟩ := He.ba h
  obtain ⟨h3, h⟩ := He.ba h
  obtain ⟨h4, h⟩ := He.ba h
  obtain ⟨h5, h⟩ := He.ba h
  obtain ⟨h6, h7⟩ := He.ba h
  refine ⟨⟨?_, bo_ok h1, bo_ok h2, bo_ok h3, h4⟩, bo_ok h5, bo_ok h6, bo_ok h7⟩
  cases e : K.lookup (He.ga K C) with
  | none => rw [e] at h0; cases h0
  | some o =>
    obtain ⟨oc, od, dt, osl⟩ := o
    rw [e] at h0
    cases oc with
    | type t =>
      cases dt with
      | cls cd =>
        obtain ⟨nm, bs, mro, ns, qn, hd, sn, sb, ab, col, del⟩ := cd
        obtain ⟨g1, g⟩ := He.ba h0
        obtain ⟨g2, g⟩ := He.ba g
        obtain ⟨g3, g⟩ := He.ba g
        obtain ⟨g4, g5⟩ := He.ba g
        have g4' : (!del) = true := g4
        have g3' : hd = true := g3
        cases del with
        | true => cases g4'
        | false =>
          subst g3'
          cases mro with
          | nil => cases g2
          | cons v bm =>
            cases v with
            | ref C' =>
              have g2' : (decide (C' = He.ga K C) && PySem.HandSPX.refsVE bm) = true := g2
              obtain ⟨g6, g7⟩ := He.ba g2'
              have e1 := of_decide_eq_true g6
              have e2 : t = "type" := of_decide_eq_true g1
              subst e1 e2
              obtain ⟨l⟩ := osl
              match l, g5 with
              | [k0, k1, k2, k3, some (.builtin n), k5], g5 =>
                have e3 : n = "ValueError.__new__" := of_decide_eq_true g5
                subst e3
                exact ⟨nm, qn, ns, bs, bm, sn, sb, ab, col, od, k0, k1, k2, k3, k5, rfl, g7⟩
            | _ => cases g2
      | _ => cases h0
    | _ => cases dt <;> cases h0
def cExm (C D : Str) (b : Bool) (K : FK) : Bool := bo (PySem.W.exmOne K (.ref (He.ga K C)) (.ref (He.ga K D))) (some b)
theorem find_none {z : Str} : ∀ {es : List DictEntry} {ks : List Str} {P : Params}, es.map He.keyOf = He.keysIn P ks → z ∉ ks → es.find? (fun d => Value.isStrOf z d.key) = none
  | [], _, _, _, _ => rfl
  | e :: r, [], P, h, _ => by cases h
  | e :: r, k :: ks, P, h, hn => by
    have h1 : He.keyOf e :: r.map He.keyOf = some (k, PyData.keyHash P k) :: He.keysIn P ks := h
    injection h1 with h2 h3
    unfold He.keyOf at h2
    have ne : ¬ (Value.isStrOf z e.key = true) := by
      intro c
      split at h2
      · rename_i x t q
        obtain ⟨h5, _⟩ := Prod.mk.inj (Option.some.inj h2)
        rw [q] at c
        have c2 : (x == z) = true := c
        exact hn (by rw [← eq_of_beq c2, h5]; exact List.mem_cons_self)
      · cases h2
    have ne2 : Value.isStrOf z e.key = false := by simpa using ne
    simp only [List.find?_cons, ne2]
    exact find_none h3 fun m => hn (List.mem_cons_of_mem _ m)
def lowB (K : FK) (x : Str) : Bool := !(He.ga K x == sysModules)
def cTab (x : Str) (kvs : List (Str × D)) (K : FK) : Bool := kvs.all fun q => q.2.simple && (match PySem.W.nsIn K (He.ga K x) q.1 with
  | some (some u) => He.relB (vOf q.2) u
  | _ => false)
theorem lookup_in {z : Str} {d : D} : ∀ {kvs : List (Str × D)}, kvs.lookup z = some d → (z, d) ∈ kvs
  | [], h => by cases h
  | (k, v) :: r, h => by
    rw [List.lookup_cons] at h
    cases e : z == k with
    | true =>
      rw [e] at h
      cases h
      rw [eq_of_beq e]
      exact List.mem_cons_self
    | false =>
      rw [e] at h
      exact List.mem_cons_of_mem _ (lookup_in h)
theorem lookup_none {z : Str} : ∀ {kvs : List (Str × D)}, kvs.lookup z = none → z ∉ kvs.map (·.1)
  | [], _ => by simp
  | (k, v) :: r, h => by
    rw [List.lookup_cons] at h
    cases e : z == k with
    | true => rw [e] at h; cases h
    | false =>
      rw [e] at h
      intro m
      rcases List.mem_cons.mp m with m | m
      · rw [m] at e
        simp at e
      · exact lookup_none h m
theorem cTab_ok {P : Program} {w : World} {K : FK} {x : Str} {kvs : List (Str × D)} (h : cTab x kvs K = true) (t : He.dicW K (He.ga K x) = some (He.keysIn w.params (kvs.map (·.1)))) : MdS P w K (He.ga K x) kvs := by
  obtain ⟨es, n, D0⟩ := He.dicW_ok t
  have hall := List.all_eq_true.mp h
  have keys : es.toList.map He.keyOf = He.keysIn w.params (kvs.map (·.1)) := by
    have t2 := t
    unfold He.dicW at t2
    rw [D0.at_] at t2
    have t3 : (match decide ("dict" = "dict") && ((#[] : Array (Option Value)).isEmpty && !(He.ga K x == sysModules)) with
      | true => some (es.toList.map He.keyOf)
      | false => none) = some (He.keysIn w.params (kvs.map (·.1))) := t2
    rw [D0.low] at t3
    exact Option.some.inj t3
  refine ⟨fun hp hin => ⟨_, PySem.W.mapOf_K (prog := P) hin D0.at_ D0.lit, fun z => ?_⟩, D0.low, fun z d e => ?_⟩
  · cases e : kvs.lookup z with
    | some d =>
      have z2 := hall _ (lookup_in e)
      rw [Bool.and_eq_true] at z2
      obtain ⟨_, z3⟩ := z2
      cases e2 : PySem.W.nsIn K (He.ga K x) z with
      | none => rw [e2] at z3; cases z3
      | some o =>
        cases o with
        | none => rw [e2] at z3; cases z3
        | some u =>
          rw [e2] at z3
          show RelO (some (vOf d)) _
          rw [PySem.W.find_K D0.at_ e2]
          exact He.relB_ok z3
    | none =>
      have z2 := find_none keys (lookup_none e)
      show RelO none (findBy Value.isStrOf es z)
      have e3 : findBy Value.isStrOf es z = none := by
        unfold findBy
        obtain ⟨l⟩ := es
        rw [List.find?_toArray]
        rw [show (l.find? fun d => Value.isStrOf z d.key) = none from z2]
        rfl
      rw [e3]
      trivial
  · have z2 := hall _ (lookup_in e)
    rw [Bool.and_eq_true] at z2
    exact z2.1
def entI (e : DictEntry) (q : Int × D) : Bool := (match e.key with
  | .int i _ => decide (i = q.1)
  | _ => false) && (decide (e.hash = PySem.hashInt q.1) && (He.relB (vOf q.2) e.val && q.2.simple))
def entsI : List DictEntry → List (Int × D) → Bool
  | [], [] => true
  | e :: es, q :: qs => entI e q && entsI es qs
  | _, _ => false
def cTabI (x : Str) (kvs : List (Int × D)) (K : FK) : Bool := lowB K x && (match K.lookup (He.ga K x) with
  | some ⟨.type c, none, .dict es _, sl⟩ => decide (c = "dict") && (sl.isEmpty && entsI es.toList kvs)
  | _ => false)
theorem entI_key {e : DictEntry} {q : Int × D} (h : entI e q = true) : (∃ t, e.key = .int q.1 t) ∧ e.hash = PySem.hashInt q.1 ∧ RelV (vOf q.2) e.val ∧ q.2.simple = true := by
  unfold entI at h
  obtain ⟨h1, h⟩ := He.ba h
  obtain ⟨h2, h⟩ := He.ba h
  obtain ⟨h3, h4⟩ := He.ba h
  refine ⟨?_, of_decide_eq_true h2, He.relB_ok h3, h4⟩
  cases e1 : e.key with
  | int i t =>
    rw [e1] at h1
    have h5 : i = q.1 := of_decide_eq_true h1
    exact ⟨t, by rw [h5]⟩
  | _ => rw [e1] at h1; cases h1
theorem entsI_find : ∀ {es : List DictEntry} {qs : List (Int × D)} (z : Int), entsI es qs = true → (∀ e ∈ es, ∃ k, Value.isInt k e.key = true ∧ e.hash = PySem.hashInt k) ∧ RelO ((qs.lookup z).map vOf) ((es.find? fun e => Value.isInt z e.key).map (·.val)) ∧ ∀ d, qs.lookup z = some d → d.simple = true
  | [], [], z, _ => ⟨(fun e he => by cases he), trivial, (fun d h => by cases h)⟩
  | e :: es, q :: qs, z, h => by
    obtain ⟨h1, h2⟩ := He.ba (show (entI e q && entsI es qs) = true from h)
    obtain ⟨⟨t, k1⟩, k2, k3, k4⟩ := entI_key h1
    obtain ⟨i1, i2, i3⟩ := entsI_find z h2
    refine ⟨fun e' he => ?_, ?_, ?_⟩
    · rcases List.mem_cons.mp he with r | r
      · rw [r]
        exact ⟨q.1, by rw [k1]; simp [Value.isInt], k2⟩
      · exact i1 e' r
    · obtain ⟨qk, qv⟩ := q
      rw [List.lookup_cons]
      by_cases c : z = qk
      · subst c
        have c1 : Value.isInt z e.key = true := by rw [k1]; simp [Value.isInt]
        simp only [List.find?_cons, c1, beq_self_eq_true]
        exact k3
      · have c1 : ¬ Value.isInt z e.key = true := by
          rw [k1]
          simp [Value.isInt]
          exact fun e => c e.symm
        have c3 : Value.isInt z e.key = false := by simpa using c1
        have c2 : (z == qk) = false := by simpa using c
        simp only [List.find?_cons, c3, c2]
        exact i2
    · obtain ⟨qk, qv⟩ := q
      intro d
      rw [List.lookup_cons]
      by_cases c : z = qk
      · subst c
        simp only [beq_self_eq_true]
        intro e
        cases e
        exact k4
      · have c2 : (z == qk) = false := by simpa using c
        rw [c2]
        exact i3 d
  | [], _ :: _, _, h => by cases h
  | _ :: _, [], _, h => by cases h
theorem cTabI_ok {P : Program} {w : World} {K : FK} {x : Str} {kvs : List (Int × D)} (h : cTabI x kvs K = true) : MdI P w K (He.ga K x) kvs := by
  obtain ⟨h1, h2⟩ := He.ba h
  have low : (He.ga K x == sysModules) = false := by
    unfold lowB at h1
    simpa using h1
  cases e : K.lookup (He.ga K x) with
  | none => rw [e] at h2; cases h2
  | some o =>
    obtain ⟨oc, od, dt, osl⟩ := o
    rw [e] at h2
    cases oc with
    | type c =>
      cases od with
      | none =>
        cases dt with
        | dict es n =>
          obtain ⟨g1, g2⟩ := He.ba h2
          obtain ⟨g3, g4⟩ := He.ba g2
          have e1 : c = "dict" := of_decide_eq_true g1
          have e2 : osl = #[] := Array.isEmpty_iff.mp g3
          subst e1 e2
          refine ⟨fun hp hin => ⟨fun z => findBy Value.isInt es z, ⟨_, es, n, hin _ _ e, ⟨rfl, rfl, rfl⟩, rfl, fun en hen => (entsI_find 0 g4).1 en (Array.mem_toList_iff.mpr hen), fun _ => rfl⟩, fun z => ?_⟩, low, fun z d hz => (entsI_find z g4).2.2 d hz⟩
          show RelO _ (findBy Value.isInt es z)
          unfold findBy
          obtain ⟨l⟩ := es
          rw [List.find?_toArray]
          exact (entsI_find z g4).2.1
        | _ => cases h2
      | some b => cases dt <;> cases h2
    | _ => cases od <;> cases dt <;> cases h2
theorem lawG {P : Program} {w : World} {K : PySem.W.Frag} {mg mb : Str → Option Value} {k : Nat} {fa a : Addr} {fd : FuncData} {x : Str} {sp : Sp} {t1 : Shared} {vs : List Value} {ns : List Int} (hK : K.In t1.heap) (hM : t1.heap.Ns mainGlobals mg) (hB : t1.heap.Ns builtinsNs mb) (hBB : ∀ x : Str, x ≠ "__name__" → mb x = bootBuiltins x)
    (hlim : t1.heap.NoLimit) (hgen : t1.gens = #[]) (ha : t1.heap.get? a = some { cls := .type "list", data := .seq vs.toArray }) (hi : IntsAre vs ns) (hl : ns.length ≤ sizeLine) (hr : Room k callerA) (F : ∀ base : Heap, K.In base → base.Ns mainGlobals mg → FnG P w K mg base k fa fd [x] sp)
    (hbind : ∀ (s : Shared) (u : Value), BindsTo s fd ⟨[u], []⟩ [(x, u)]) (hsp : ∀ H : Hp, Only H → SqL K H a (ns.map V.int) → sp [.ref a] H (fun v _ => v = .bl true) fun _ _ _ => False) :
    codeAny (model P w) callerA (.call (.ref fa) ⟨[.ref a], []⟩) (fun r s' => r = .ok (.ret (.bool true)) ∧ OldK t1.heap s'.heap ∧ s'.os = t1.os ∧ AllBare s'.gens) t1 := by
  have rv := vals_ints hi
  have core : ∀ H : Hp, Only H → SqL K H a (ns.map V.int) → HOk P w H t1.heap → (∀ b, H b ≠ none → b = a) → (H a ≠ none → K.lookup a = none) → codeAny (model P w) callerA (.call (.ref fa) ⟨[.ref a], []⟩) (fun r s' => r = .ok (.ret (.bool true)) ∧ OldK t1.heap s'.heap ∧ s'.os = t1.os ∧ AllBare s'.gens) t1 := by
    intro H hO hS hok hA hKa
    have seen : ∀ {b : Addr} {o : Obj}, t1.heap.get? b = some o → H b = none → (hidT t1.heap H).get? b = some o := fun e n => hidT_get e n
    have free : ∀ {b : Addr} {o : Obj} {es : Array DictEntry} {ep : Nat}, t1.heap.get? b = some o → o.data = .dict es ep → H b = none := by
      intro b o es ep e d
      cases q : H b with
      | none => rfl
      | some u =>
        have eb : b = a := hA b (by rw [q]; simp)
        subst eb
        rw [ha] at e
        cases e
        have d2 : Data.seq vs.toArray _ = Data.dict es ep := d
        cases d2
    have names : ∀ {b : Addr} {m : Str → Option Value}, t1.heap.Ns b m → (hidT t1.heap H).Ns b m := fun {b m} ⟨o, es, ep, e, d, r⟩ => ⟨o, es, ep, seen e (free e d), d, r⟩
    have hKb : K.In (hidT t1.heap H) := by
      intro b o e
      refine seen (hK b o e) ?_
      cases q : H b with
      | none => rfl
      | some u =>
        have eb : b = a := hA b (by rw [q]; simp)
        subst eb
        rw [hKa (by rw [q]; simp)] at e
        cases e
    have mod : Mod K mg (hidT t1.heap H) := by
      obtain ⟨mc, l1, l2⟩ := hlim
      exact ⟨hKb, names hM, ⟨mb, names hB, hBB⟩, mc, names l1, l2⟩
    have e0 : Env0 P w K mg (hidT t1.heap H) callerA [] t1 H := ⟨rfl, mod, fun b o e => of_hidT e, Nat.le_of_eq (hidT_size _ _), trivial, fun b hb => absurd (show b ∈ ([] : List Addr) from hb) (by simp), hok, .of_eq hgen⟩
    refine codeAny_mono ((F _ hKb (names hM)).run callerA [] t1 H ⟨[.ref a], []⟩ [.ref a] [.ref a] _ _ rfl hr e0 (hbind t1 (.ref a)) (.cons rfl .nil) (hsp H hO hS)) fun r s' h => ?_
    cases r with
    | error e =>
      obtain ⟨_, _, _, _, _, _, _, _, _, _, _, _, z⟩ := h
      exact z.elim
    | ok fl =>
      cases fl with
      | next => exact h.elim
      | brk => exact h.elim
      | cont => exact h.elim
      | ret u =>
        obtain ⟨v, H2, os, bare, un, hok2, rel, qv⟩ := h
        have qv2 : v = .bl true := qv
        subst qv2
        cases (show u = Value.bool true from rel)
        refine ⟨rfl, OldK.of_keep fun b o e => ?_, os, bare⟩
        cases q : H b with
        | none => exact un.keep b o e q (by intro z; exact absurd (show b ∈ ([] : List Addr) from z) (by simp)) (by simp)
        | some u =>
          rcases hO b with z | ⟨ob, xs, z⟩
          · rw [q] at z
            cases z
          · obtain ⟨w1, _⟩ := hok b _ z
            obtain ⟨w2, _⟩ := hok2 b _ (un.frzs b ob _ z)
            rw [e] at w1
            cases w1
            exact w2
  have lenV := hi.length
  cases hk : K.lookup a with
  | some o =>
    have e := hK a o hk
    rw [ha] at e
    cases e
    exact core (fun _ => none) (fun _ => .inl rfl) (.inr ⟨_, vs.toArray, _, hk, rfl, rfl, rfl, by rw [List.size_toArray, lenV]; exact hl, by simpa using rv⟩) (fun b u z => nomatch z) (fun b z => absurd rfl z) fun z => absurd rfl z
  | none =>
    refine core (fun b => if b = a then some (.frz { cls := .type "list", data := .seq vs.toArray } (.lst (ns.map V.int))) else none) (fun b => ?_) (.inl (.inr ⟨{ cls := .type "list", data := .seq vs.toArray }, if_pos rfl⟩)) (fun b u z => ?_) (fun b z => ?_) fun _ => hk
    · by_cases hb : b = a
      · exact .inr ⟨_, _, if_pos hb⟩
      · exact .inl (if_neg hb)
    · by_cases hb : b = a
      · have z2 := (if_pos hb).symm.trans z
        cases z2
        subst hb
        exact ⟨ha, by rw [List.length_map]; exact hl, vs, _, rv, ha⟩
      · have z2 := (if_neg hb).symm.trans z
        cases z2
    · by_cases hb : b = a
      · exact hb
      · exact absurd (if_neg hb) z
theorem walkG {l : PySem.W.OpenLaw} {n k : Nat} {q : Program} {loose : List Str} {XP : (Str → Option Value) → Heap → Prop} {YP : World → Heap → Prop} {d : DefRec} {x : Str} (hn : l.most = some n) (hn2 : n ≤ sizeLine) (hdf : d.params.defaults = []) (hr : Room k callerA)
    (F : ∀ (w : World) (mg : Str → Option Value) (fa : Addr) (h : Heap), YP w h → h.Ns mainGlobals mg → mg d.name = some (.ref fa) → ∃ (K : PySem.W.Frag) (fd : FuncData) (sp : Sp), K.In h ∧ (∀ (s : Shared) (u : Value), BindsTo s fd ⟨[u], []⟩ [(x, u)]) ∧
        (∀ (H : Hp) (a : Addr) (ns : List Int), ns.length ≤ n → Only H → SqL K H a (ns.map V.int) → sp [.ref a] H (fun v _ => v = .bl true) fun _ _ _ => False) ∧ ∀ base : Heap, K.In base → base.Ns mainGlobals mg → FnG l.prog w K mg base k fa fd [x] sp) :
    PySem.W.WalkO q loose XP YP l.row.toRowW d [] (fun f vs => PySem.call f vs) := by
  refine Att.attach_call hn hdf fun w s₀ s₁ mg mb fa o pm cd doc a vs ns G Y ho hd hcd hmg hobj hints hlen hg => ?_
  obtain ⟨K, fd, sp, KX, hb, hsp, hF⟩ := F w mg fa _ Y G.T.g hmg
  exact lawG KX G.T.g G.T.b G.T.builtins G.T.nolimit hg hobj hints (Nat.le_trans hlen hn2) hr hF hb (fun H hO hS => hsp H a ns hlen hO hS)
theorem spD_law {K : PySem.W.Frag} {m : List D → M D} {H : Hp} {a : Addr} {ns : List Int} (hO : Only H) (hS : SqL K H a (ns.map V.int)) (h : ∃ g, m [.scr (ns.map D.int)] [] = .ok (.bl true) g) : spD (WK K) 1 m [.ref a] H (fun v _ => v = .bl true) fun _ _ _ => False := by
  obtain ⟨g, e⟩ := h
  have sub : Same H H := .refl H
  refine ⟨rfl, fun _ => False, [], H, [], [.scr (ns.map D.int)], fun _ z => z.elim, ⟨sub, rfl, fun i j a e => by simp at e, fun n a e => by simp at e, fun n a o e => by simp at e⟩, .one (.scr (vs := ns.map V.int) hS (Reps.ofInts ns)), ?_⟩
  rw [e]
  intro μ' F' H' f rg v r
  cases r
  rfl
end PD
namespace PD
open PySem PySem.Spec L2
open PyProof.Rows hiding St
theorem funD_det {K : FK} {x x2 q q2 : Str} {pa pa2 : Arguments} {bo bo2 : List Stmt} {sc sc2 : Scope} {dv dv2 : List V} {kw kw2 : List (Str × V)} {f : Addr} {fd fd2 : FuncData} (F : FunD K x q pa bo sc dv kw f fd) (F2 : FunD K x2 q2 pa2 bo2 sc2 dv2 kw2 f fd2) : fd = fd2 := by
  obtain ⟨_, _, _, _, _, _, _, _, _, _, _, lk, _⟩ := F.ex
  obtain ⟨_, _, _, _, _, _, _, _, _, _, _, lk2, _⟩ := F2.ex
  rw [lk] at lk2
  cases lk2
  rfl
theorem exC_of {P : Program} {w : World} {K : FK} {mg : Str → Option Value} {base : Heap} {C fld name qual : Str} {fd : FuncData} {params : Arguments} {scope : Scope} {dvs : List V} {kws : List (Str × V)} {p1 p2 p3 pos : Pos} {body : List Stmt} (h : cOex C fld K = true) (F : FunD K name qual params body scope dvs kws (He.fAd K (C, some "__init__")) fd)
    (eb : body = [.Assign [.Attribute (.Name "self" p1) fld p2] (.Name fld p3) pos]) (S : FnScope ["self", fld] ["self", fld] scope) (v0 : Vis scope "self") (v1 : Vis scope fld) (hd : (fld == ("__debug__" : Str)) = false) (hcd : (fld == ("__classdict__" : Str)) = false) (B : Binds K fd ["self", fld] []) : ExC P w K mg base (WK K) C fld := by
  obtain ⟨T, h1, h2, h3⟩ := cOex_ok h
  exact ⟨T, _, fd, h1, h2, fnX_of F eb S T h3 v0 v1 hd hcd, B⟩
end PD
namespace PD
open PySem PySem.Spec L2
open PyProof.Rows hiding St
section
variable {X : Cx} {W : Wd} {Wx : WX} {ρ : Ro} {S : Type} {mk : S → Ro} {rest : List Stmt} {e e2 : Expr} {m m2 : M D} {p p2 pos pos2 apos apos2 spos : Pos} {x y : Str} {xs ys : List D}
def insP (xs : List D) (k : List D → M (Fl S)) : D → Option (Nat × D) → M (Fl S)
  | .int i, some (n, v) => if 0 ≤ i ∧ i < 2 ^ 63 ∧ (xs.eraseIdx n).length < sizeLine then k ((xs.eraseIdx n).take i.toNat ++ [v] ++ (xs.eraseIdx n).drop i.toNat) else stuck
  | _, _ => stuck
def mInsP (m m2 : M D) (xs : List D) (k : List D → M (Fl S)) : M (Fl S) := m >>= fun d => m2 >>= fun d2 => insP xs k d (pickD xs d2)
theorem ds_insPop (i : Nat) {k : List D → M (Fl S)} (ei : ρ[i]? = some (.ol xs)) (h : PDe X W Wx e ρ m) (h2 : PDe X W Wx e2 ρ m2) (hr : ∀ us, PDs X W Wx rest (ρ.set i (.ol us)) mk (k us))
    (hb : ∀ {t u : TE} {r : V → List V → Hp → VK → Prop}, MtR X "list.insert" r → PE X e t → PE X (.Call (.Attribute (.Name x p2) "pop" apos2) [e2] [] pos2) u → PE X (.Call (.Attribute (.Name x p) "insert" apos) [e, .Call (.Attribute (.Name x p2) "pop" apos2) [e2] [] pos2] [] pos) (tBM X.K "list" r (tVar i) (tCons t (tCons u tNil))))
    (hb2 : ∀ {t : TE} {r : V → List V → Hp → VK → Prop}, MtR X "list.pop" r → PE X e2 t → PE X (.Call (.Attribute (.Name x p2) "pop" apos2) [e2] [] pos2) (tBM X.K "list" r (tVar i) (tCons t tNil)))
    (hs : swapsWith (.Call (.Attribute (.Name x p) "insert" apos) [e, .Call (.Attribute (.Name x p2) "pop" apos2) [e2] [] pos2] [] pos) none spos.line X.env = pure false := by rfl) :
    PDs X W Wx (.Expr (.Call (.Attribute (.Name x p) "insert" apos) [e, .Call (.Attribute (.Name x p2) "pop" apos2) [e2] [] pos2] [] pos) spos :: rest) ρ mk (mInsP m m2 xs k) := by
  refine ⟨PSsw (pss_cons (ps_expr (hb mt_insert h.p (hb2 mt_popAt h2.p)) hs) (u := fun D σ H => ∃ us, tS W Wx (ρ.set i (.ol us)) mk (k us) D σ H) ⟨fun pins s σ H D I ⟨c, q⟩ => (hr c).p.run pins s σ H D I q⟩) ?_⟩
  intro D0 σ H ⟨B, μ, F, g, a, q⟩
  obtain ⟨l, vs, es, e1, e2', nm, r⟩ := a.ownL ei
  refine ⟨.ref l, es, .inl ⟨rfl, _, SqL.of e1⟩, _, μ, F, g, a.at_, (Run.bind q fun _ z => .inl z).mono (fun _ z => z) fun d g1 μ1 F1 H1 f1 r1 q1 v pv => ?_⟩
  have a1 := a.fu f1 (fun _ z => z) r1
  obtain ⟨l', vs', z0, z1, z2, nm', r'⟩ := a1.ownL ei
  rw [es] at z0
  cases z0
  refine ⟨.ref l, es, .inl ⟨rfl, _, SqL.of z1⟩, _, μ1, F1, g1, a1.at_, (Run.bind q1 fun _ z => .inl z).mono (fun _ z => z) fun d2 g2 μ2 F2 H2 f2 r2 q2 v2 pv2 => ?_⟩
  have a2 := a1.fu f2 (fun _ z => z) r2
  have pv' := pv.mono f2.grow f2.fro
  obtain ⟨l', vs2, y0, y1, y2, nm2, r2'⟩ := a2.ownL ei
  rw [es] at y0
  cases y0
  have q3 : Run W Wx σ.length B μ2 F2 H2 (insP xs k d (pickD xs d2) g2) (EndQ W σ.length B D0 mk) := q2
  cases hp : pickD xs d2 with
  | none =>
    rw [hp] at q3
    cases d <;> exact q3.elim
  | some nv =>
    obtain ⟨n, dv⟩ := nv
    rw [hp] at q3
    cases pv' with
    | int j =>
      have q4 : Run W Wx σ.length B μ2 F2 H2 ((if 0 ≤ j ∧ j < 2 ^ 63 ∧ (xs.eraseIdx n).length < sizeLine then k ((xs.eraseIdx n).take j.toNat ++ [dv] ++ (xs.eraseIdx n).drop j.toNat) else stuck : M (Fl S)) g2) (EndQ W σ.length B D0 mk) := q3
      by_cases c : 0 ≤ j ∧ j < 2 ^ 63 ∧ (xs.eraseIdx n).length < sizeLine
      · rw [if_pos c] at q4
        obtain ⟨z, ed, b1, b2, hn, hv⟩ := pickD_of hp
        subst ed
        cases pv2
        obtain ⟨w, ew, pw⟩ := r2'.get hv
        obtain ⟨f3, a3⟩ := a2.putL (vs := vs2) ei es (r2'.eraseIdx n)
        have ei2 : (ρ.set i (.ol (xs.eraseIdx n)))[i]? = some (.ol (xs.eraseIdx n)) := by
          rw [List.getElem?_set_self', ei]
          rfl
        obtain ⟨f4, a4⟩ := a3.putL (vs := vs2.eraseIdx n) ei2 es ((((r2'.eraseIdx n).take j.toNat).append (.one pw)).append ((r2'.eraseIdx n).drop j.toNat))
        rw [List.set_set] at a4
        refine ⟨l, vs2, z, n, w, rfl, rfl, y1, b1, b2, by rw [← r2'.length]; exact hn, ew, l, vs2.eraseIdx n, j, w, rfl, rfl, upd_same, by rw [← (r2'.eraseIdx n).length]; exact c.2.2, c.1, c.2.1, _, B, μ2, F2, g2, a4, (q4.later f3 fun _ z => z).later f4 fun _ z => z⟩
      · rw [if_neg c] at q4
        exact q4.elim
    | _ => exact q3.elim
end
end PD
namespace G
open PySem PySem.Spec L2 PD
open PyProof.Rows hiding St
def top (i : Nat) : Stmt := PySem.Challenge.pw_switchhills_k70_whole_one_and_two_judged.main.body.getD i (.Pass ⟨0, 0, 0, 0⟩)
def s_settings_in : Stmt := top 22
def s_is_within : Stmt := top 20
def s_check_sizes : Stmt := top 21
def s_Board_init : Stmt := inner (top 24) 0
def s_board_told : Stmt := top 23
def s_Board_contains : Stmt := inner (top 24) 7
def s_are_neighbours : Stmt := top 32
def s_is_fact : Stmt := top 47
def s_leads : Stmt := top 48
def s_is_let : Stmt := top 49
def s_check_facts : Stmt := top 50
def s_check_board : Stmt := top 25
def s_Notes_init : Stmt := inner (top 53) 0
def s_notes_told : Stmt := top 55
def s_read_notes : Stmt := top 67
def s_is_empty : Stmt := top 70
def s_Notes_board : Stmt := inner (top 53) 2
def s_Board_whole : Stmt := inner (top 24) 4
def s_Board_settings : Stmt := inner (top 24) 3
def s_reached_from : Stmt := top 58
def s_Notes_facts : Stmt := inner (top 53) 3
def s_leads_to_some : Stmt := top 59
def s_turned_to : Stmt := top 30
def s_beside_part : Stmt := top 31
def s_can_both : Stmt := top 60
def s_can_be_two : Stmt := top 61
def s_Board_len : Stmt := inner (top 24) 5
def s_check_order : Stmt := top 36
def s_is_order : Stmt := top 37
def s_does_fit : Stmt := top 54
def s_is_fitting : Stmt := top 57
def s_peaks_by : Stmt := top 38
def s_squares_of : Stmt := top 33
def s_kind_by : Stmt := top 39
def s_is_rough : Stmt := top 71
def s_can_cross : Stmt := top 62
def s_accepts_whole : Stmt := top 74
def s_is_way : Stmt := top 65
def s_does_rise : Stmt := top 66
def s_accepts_way : Stmt := top 75
def s_is_lot_checker : Stmt := top 72
def s_told_peaks : Stmt := top 63
def s_can_be_all : Stmt := top 64
def s_accepts_peaks : Stmt := top 76
def s_accepts : Stmt := top 77
def s__law_take : Stmt := top 80
def s__law_of : Stmt := top 81
def s__law_spread : Stmt := top 82
def s__law_mixed : Stmt := top 85
def s__law_apart : Stmt := top 83
def s__law_seen : Stmt := top 86
def s__law_world : Stmt := top 91
def s__law_sheet : Stmt := top 87
def s__law_lines : Stmt := top 88
def s__law_near : Stmt := top 84
def s__law_tops : Stmt := top 89
def s__law_said : Stmt := top 92
def s__law_bent_line : Stmt := top 94
def s__law_is_line : Stmt := top 93
def s__law_fits : Stmt := top 90
def s__law_right : Stmt := top 95
def s__law_bag : Stmt := top 79
def s_law : Stmt := top 96
def kv_STANDS : List (Int × D) := [(2, (D.str ("01" : Str))), (3, (D.str ("012" : Str)))]
def kv_DIGITS : List (Str × D) := [("2", D.int 2), ("3", D.int 3)]
def kv_LENGTHS : List (Str × D) := [("one", D.int 2), ("two", D.int 2), ("smooth", D.int 2), ("rough", D.int 2), ("rises", D.int 4), ("falls", D.int 4), ("peaks", D.int 3), ("never", D.int 3)]
def tb_Board : List (TyN × Bool) := tys.map (fun s => ((Sum.inl s : TyN), false)) ++ [((Sum.inr "Board" : TyN), true), ((Sum.inr "Notes" : TyN), false)]
structure Fx (P : Program) (w : World) (K : PySem.W.Frag) (mg : Str → Option Value) (base : Heap) : Prop where
  g_isinstance : mg "isinstance" = none
  g_tuple : mg "tuple" = none
  g_len : mg "len" = none
  g_str : mg "str" = none
  t_LENGTHS : MdS P w K (He.ga K "LENGTHS") kv_LENGTHS
  tg_LENGTHS : mg "LENGTHS" = some (.ref (He.ga K "LENGTHS"))
  c_HEAD : ∃ t, mg "HEAD" = some (.str "board" t)
  g_all : mg "all" = none
  t_DIGITS : MdS P w K (He.ga K "DIGITS") kv_DIGITS
  tg_DIGITS : mg "DIGITS" = some (.ref (He.ga K "DIGITS"))
  d_settings_in : ∃ fd, FunD K "settings_in" "settings_in" (defArgs s_settings_in) (defBody s_settings_in) (defScope s_settings_in) [] [] (He.fAd K ("settings_in", none)) fd ∧ Binds K fd ["part"] []
  f_settings_in : mg "settings_in" = some (.ref (He.fAd K ("settings_in", none)))
  t_STANDS : MdI P w K (He.ga K "STANDS") kv_STANDS
  tg_STANDS : mg "STANDS" = some (.ref (He.ga K "STANDS"))
  cl_Board : Cls K (He.ga K "Board")
  na_Board_both : NoAttr K (He.ga K "Board") "both"
  ex_InvalidSizes : ExC P w K mg base (WK K) "InvalidSizes" "index"
  gc_InvalidSizes : mg "InvalidSizes" = some (.ref (He.ga K "InvalidSizes"))
  g_range : mg "range" = none
  c_MOST_SWITCHES : ∃ t, mg "MOST_SWITCHES" = some (.int 5 t)
  g_int : mg "int" = none
  g_bool : mg "bool" = none
  d_is_within : ∃ fd, FunD K "is_within" "is_within" (defArgs s_is_within) (defBody s_is_within) (defScope s_is_within) [] [] (He.fAd K ("is_within", none)) fd ∧ Binds K fd ["value", "least", "most"] []
  f_is_within : mg "is_within" = some (.ref (He.fAd K ("is_within", none)))
  c_MOST_SETTINGS : ∃ t, mg "MOST_SETTINGS" = some (.int 48 t)
  d_check_sizes : ∃ fd, FunD K "check_sizes" "check_sizes" (defArgs s_check_sizes) (defBody s_check_sizes) (defScope s_check_sizes) [] [] (He.fAd K ("check_sizes", none)) fd ∧ Binds K fd ["sizes"] []
  f_check_sizes : mg "check_sizes" = some (.ref (He.fAd K ("check_sizes", none)))
  d_Board_init : ∃ fd, FunD K "__init__" "Board.__init__" (defArgs s_Board_init) (defBody s_Board_init) (defScope s_Board_init) [] [] (He.fAd K ("Board", some "__init__")) fd ∧ Binds K fd ["self", "sizes"] []
  mk_Board : Mk K (He.ga K "Board") (He.fAd K ("Board", some "__init__"))
  gc_Board : mg "Board" = some (.ref (He.ga K "Board"))
  exm_InvalidSizes_InvalidSizes : PySem.W.exmOne K (.ref (He.ga K "InvalidSizes")) (.ref (He.ga K "InvalidSizes")) = some true
  d_board_told : ∃ fd, FunD K "board_told" "board_told" (defArgs s_board_told) (defBody s_board_told) (defScope s_board_told) [] [] (He.fAd K ("board_told", none)) fd ∧ Binds K fd ["text"] []
  f_board_told : mg "board_told" = some (.ref (He.fAd K ("board_told", none)))
  c_SIGN : ∃ t, mg "SIGN" = some (.str "<" t)
  cl_Notes : Cls K (He.ga K "Notes")
  na_Notes_both : NoAttr K (He.ga K "Notes") "both"
  ex_InvalidFacts : ExC P w K mg base (WK K) "InvalidFacts" "index"
  gc_InvalidFacts : mg "InvalidFacts" = some (.ref (He.ga K "InvalidFacts"))
  d_Board_contains : ∃ fd, FunD K "__contains__" "Board.__contains__" (defArgs s_Board_contains) (defBody s_Board_contains) (defScope s_Board_contains) [] [] (He.fAd K ("Board", some "__contains__")) fd ∧ Binds K fd ["self", "value"] []
  fi_Board___contains__ : PySem.W.findIn K (.ref (He.ga K "Board")) "__contains__" = some (some (.ref (He.fAd K ("Board", some "__contains__"))))
  fn_Board___contains__ : PySem.W.isFn K (.ref (He.fAd K ("Board", some "__contains__"))) = true
  d_are_neighbours : ∃ fd, FunD K "are_neighbours" "are_neighbours" (defArgs s_are_neighbours) (defBody s_are_neighbours) (defScope s_are_neighbours) [] [] (He.fAd K ("are_neighbours", none)) fd ∧ Binds K fd ["one", "other"] []
  f_are_neighbours : mg "are_neighbours" = some (.ref (He.fAd K ("are_neighbours", none)))
  d_is_fact : ∃ fd, FunD K "is_fact" "is_fact" (defArgs s_is_fact) (defBody s_is_fact) (defScope s_is_fact) [] [] (He.fAd K ("is_fact", none)) fd ∧ Binds K fd ["board", "value"] []
  f_is_fact : mg "is_fact" = some (.ref (He.fAd K ("is_fact", none)))
  d_leads : ∃ fd, FunD K "leads" "leads" (defArgs s_leads) (defBody s_leads) (defScope s_leads) [] [] (He.fAd K ("leads", none)) fd ∧ Binds K fd ["facts", "start", "goal"] []
  f_leads : mg "leads" = some (.ref (He.fAd K ("leads", none)))
  d_is_let : ∃ fd, FunD K "is_let" "is_let" (defArgs s_is_let) (defBody s_is_let) (defScope s_is_let) [] [] (He.fAd K ("is_let", none)) fd ∧ Binds K fd ["facts", "fact"] []
  f_is_let : mg "is_let" = some (.ref (He.fAd K ("is_let", none)))
  d_check_facts : ∃ fd, FunD K "check_facts" "check_facts" (defArgs s_check_facts) (defBody s_check_facts) (defScope s_check_facts) [] [] (He.fAd K ("check_facts", none)) fd ∧ Binds K fd ["board", "facts"] []
  f_check_facts : mg "check_facts" = some (.ref (He.fAd K ("check_facts", none)))
  tb_Board : Tbl K (WK K) (.ref (He.ga K "Board")) tb_Board
  ex_NotABoard : ExC P w K mg base (WK K) "NotABoard" "given"
  gc_NotABoard : mg "NotABoard" = some (.ref (He.ga K "NotABoard"))
  d_check_board : ∃ fd, FunD K "check_board" "check_board" (defArgs s_check_board) (defBody s_check_board) (defScope s_check_board) [] [] (He.fAd K ("check_board", none)) fd ∧ Binds K fd ["value"] []
  f_check_board : mg "check_board" = some (.ref (He.fAd K ("check_board", none)))
  d_Notes_init : ∃ fd, FunD K "__init__" "Notes.__init__" (defArgs s_Notes_init) (defBody s_Notes_init) (defScope s_Notes_init) [.ref (He.dflAt ("Notes", some "__init__") 0 K)] [] (He.fAd K ("Notes", some "__init__")) fd ∧ Binds K fd ["self", "board", "facts"] []
  mk_Notes : Mk K (He.ga K "Notes") (He.fAd K ("Notes", some "__init__"))
  gc_Notes : mg "Notes" = some (.ref (He.ga K "Notes"))
  exm_InvalidFacts_InvalidFacts : PySem.W.exmOne K (.ref (He.ga K "InvalidFacts")) (.ref (He.ga K "InvalidFacts")) = some true
  d_notes_told : ∃ fd, FunD K "notes_told" "notes_told" (defArgs s_notes_told) (defBody s_notes_told) (defScope s_notes_told) [] [] (He.fAd K ("notes_told", none)) fd ∧ Binds K fd ["text"] []
  f_notes_told : mg "notes_told" = some (.ref (He.fAd K ("notes_told", none)))
  d_read_notes : ∃ fd, FunD K "read_notes" "read_notes" (defArgs s_read_notes) (defBody s_read_notes) (defScope s_read_notes) [] [] (He.fAd K ("read_notes", none)) fd ∧ Binds K fd ["text"] []
  f_read_notes : mg "read_notes" = some (.ref (He.fAd K ("read_notes", none)))
  d_is_empty : ∃ fd, FunD K "is_empty" "is_empty" (defArgs s_is_empty) (defBody s_is_empty) (defScope s_is_empty) [] [] (He.fAd K ("is_empty", none)) fd ∧ Binds K fd ["certificate"] []
  f_is_empty : mg "is_empty" = some (.ref (He.fAd K ("is_empty", none)))
  d_Notes_board : ∃ fd, FunD K "board" "Notes.board" (defArgs s_Notes_board) (defBody s_Notes_board) (defScope s_Notes_board) [] [] (pgA K "Notes" "board") fd ∧ Binds K fd ["self"] []
  pr_Notes_board : PropOf K (He.ga K "Notes") "board" (He.ma K (He.ga K "Notes") "board") (pgA K "Notes" "board")
  d_Board_whole : ∃ fd, FunD K "whole" "Board.whole" (defArgs s_Board_whole) (defBody s_Board_whole) (defScope s_Board_whole) [] [] (pgA K "Board" "whole") fd ∧ Binds K fd ["self"] []
  pr_Board_whole : PropOf K (He.ga K "Board") "whole" (He.ma K (He.ga K "Board") "whole") (pgA K "Board" "whole")
  d_Board_settings : ∃ fd, FunD K "settings" "Board.settings" (defArgs s_Board_settings) (defBody s_Board_settings) (defScope s_Board_settings) [] [] (pgA K "Board" "settings") fd ∧ Binds K fd ["self"] []
  pr_Board_settings : PropOf K (He.ga K "Board") "settings" (He.ma K (He.ga K "Board") "settings") (pgA K "Board" "settings")
  d_reached_from : ∃ fd, FunD K "reached_from" "reached_from" (defArgs s_reached_from) (defBody s_reached_from) (defScope s_reached_from) [] [] (He.fAd K ("reached_from", none)) fd ∧ Binds K fd ["facts", "start"] []
  f_reached_from : mg "reached_from" = some (.ref (He.fAd K ("reached_from", none)))
  d_Notes_facts : ∃ fd, FunD K "facts" "Notes.facts" (defArgs s_Notes_facts) (defBody s_Notes_facts) (defScope s_Notes_facts) [] [] (pgA K "Notes" "facts") fd ∧ Binds K fd ["self"] []
  pr_Notes_facts : PropOf K (He.ga K "Notes") "facts" (He.ma K (He.ga K "Notes") "facts") (pgA K "Notes" "facts")
  g_any : mg "any" = none
  d_leads_to_some : ∃ fd, FunD K "leads_to_some" "leads_to_some" (defArgs s_leads_to_some) (defBody s_leads_to_some) (defScope s_leads_to_some) [] [] (He.fAd K ("leads_to_some", none)) fd ∧ Binds K fd ["notes", "start", "goals"] []
  f_leads_to_some : mg "leads_to_some" = some (.ref (He.fAd K ("leads_to_some", none)))
  d_turned_to : ∃ fd, FunD K "turned_to" "turned_to" (defArgs s_turned_to) (defBody s_turned_to) (defScope s_turned_to) [] [] (He.fAd K ("turned_to", none)) fd ∧ Binds K fd ["setting", "switch", "stand"] []
  f_turned_to : mg "turned_to" = some (.ref (He.fAd K ("turned_to", none)))
  g_sorted : mg "sorted" = none
  d_beside_part : ∃ fd, FunD K "beside_part" "beside_part" (defArgs s_beside_part) (defBody s_beside_part) (defScope s_beside_part) [] [] (He.fAd K ("beside_part", none)) fd ∧ Binds K fd ["part", "setting"] []
  f_beside_part : mg "beside_part" = some (.ref (He.fAd K ("beside_part", none)))
  d_can_both : ∃ fd, FunD K "can_both" "can_both" (defArgs s_can_both) (defBody s_can_both) (defScope s_can_both) [] [] (He.fAd K ("can_both", none)) fd ∧ Binds K fd ["notes", "one", "other"] []
  f_can_both : mg "can_both" = some (.ref (He.fAd K ("can_both", none)))
  d_can_be_two : ∃ fd, FunD K "can_be_two" "can_be_two" (defArgs s_can_be_two) (defBody s_can_be_two) (defScope s_can_be_two) [] [] (He.fAd K ("can_be_two", none)) fd ∧ Binds K fd ["notes"] []
  f_can_be_two : mg "can_be_two" = some (.ref (He.fAd K ("can_be_two", none)))
  ex_InvalidOrder : ExC P w K mg base (WK K) "InvalidOrder" "index"
  gc_InvalidOrder : mg "InvalidOrder" = some (.ref (He.ga K "InvalidOrder"))
  d_Board_len : ∃ fd, FunD K "__len__" "Board.__len__" (defArgs s_Board_len) (defBody s_Board_len) (defScope s_Board_len) [] [] (He.fAd K ("Board", some "__len__")) fd ∧ Binds K fd ["self"] []
  fi_Board___len__ : PySem.W.findIn K (.ref (He.ga K "Board")) "__len__" = some (some (.ref (He.fAd K ("Board", some "__len__"))))
  fn_Board___len__ : PySem.W.isFn K (.ref (He.fAd K ("Board", some "__len__"))) = true
  d_check_order : ∃ fd, FunD K "check_order" "check_order" (defArgs s_check_order) (defBody s_check_order) (defScope s_check_order) [] [] (He.fAd K ("check_order", none)) fd ∧ Binds K fd ["board", "order"] []
  f_check_order : mg "check_order" = some (.ref (He.fAd K ("check_order", none)))
  exm_InvalidOrder_InvalidOrder : PySem.W.exmOne K (.ref (He.ga K "InvalidOrder")) (.ref (He.ga K "InvalidOrder")) = some true
  d_is_order : ∃ fd, FunD K "is_order" "is_order" (defArgs s_is_order) (defBody s_is_order) (defScope s_is_order) [] [] (He.fAd K ("is_order", none)) fd ∧ Binds K fd ["board", "value"] []
  f_is_order : mg "is_order" = some (.ref (He.fAd K ("is_order", none)))
  d_does_fit : ∃ fd, FunD K "does_fit" "does_fit" (defArgs s_does_fit) (defBody s_does_fit) (defScope s_does_fit) [] [] (He.fAd K ("does_fit", none)) fd ∧ Binds K fd ["facts", "order"] []
  f_does_fit : mg "does_fit" = some (.ref (He.fAd K ("does_fit", none)))
  d_is_fitting : ∃ fd, FunD K "is_fitting" "is_fitting" (defArgs s_is_fitting) (defBody s_is_fitting) (defScope s_is_fitting) [] [] (He.fAd K ("is_fitting", none)) fd ∧ Binds K fd ["notes", "order"] []
  f_is_fitting : mg "is_fitting" = some (.ref (He.fAd K ("is_fitting", none)))
  d_peaks_by : ∃ fd, FunD K "peaks_by" "peaks_by" (defArgs s_peaks_by) (defBody s_peaks_by) (defScope s_peaks_by) [] [] (He.fAd K ("peaks_by", none)) fd ∧ Binds K fd ["order", "part"] []
  f_peaks_by : mg "peaks_by" = some (.ref (He.fAd K ("peaks_by", none)))
  d_squares_of : ∃ fd, FunD K "squares_of" "squares_of" (defArgs s_squares_of) (defBody s_squares_of) (defScope s_squares_of) [] [] (He.fAd K ("squares_of", none)) fd ∧ Binds K fd ["board"] []
  f_squares_of : mg "squares_of" = some (.ref (He.fAd K ("squares_of", none)))
  d_kind_by : ∃ fd, FunD K "kind_by" "kind_by" (defArgs s_kind_by) (defBody s_kind_by) (defScope s_kind_by) [] [] (He.fAd K ("kind_by", none)) fd ∧ Binds K fd ["order", "square"] []
  f_kind_by : mg "kind_by" = some (.ref (He.fAd K ("kind_by", none)))
  d_is_rough : ∃ fd, FunD K "is_rough" "is_rough" (defArgs s_is_rough) (defBody s_is_rough) (defScope s_is_rough) [] [] (He.fAd K ("is_rough", none)) fd ∧ Binds K fd ["notes", "certificate"] []
  f_is_rough : mg "is_rough" = some (.ref (He.fAd K ("is_rough", none)))
  d_can_cross : ∃ fd, FunD K "can_cross" "can_cross" (defArgs s_can_cross) (defBody s_can_cross) (defScope s_can_cross) [] [] (He.fAd K ("can_cross", none)) fd ∧ Binds K fd ["notes", "square"] []
  f_can_cross : mg "can_cross" = some (.ref (He.fAd K ("can_cross", none)))
  d_accepts_whole : ∃ fd, FunD K "accepts_whole" "accepts_whole" (defArgs s_accepts_whole) (defBody s_accepts_whole) (defScope s_accepts_whole) [] [] (He.fAd K ("accepts_whole", none)) fd ∧ Binds K fd ["word", "notes", "certificate"] []
  f_accepts_whole : mg "accepts_whole" = some (.ref (He.fAd K ("accepts_whole", none)))
  d_is_way : ∃ fd, FunD K "is_way" "is_way" (defArgs s_is_way) (defBody s_is_way) (defScope s_is_way) [] [] (He.fAd K ("is_way", none)) fd ∧ Binds K fd ["notes", "row", "start", "goal"] []
  f_is_way : mg "is_way" = some (.ref (He.fAd K ("is_way", none)))
  d_does_rise : ∃ fd, FunD K "does_rise" "does_rise" (defArgs s_does_rise) (defBody s_does_rise) (defScope s_does_rise) [] [] (He.fAd K ("does_rise", none)) fd ∧ Binds K fd ["notes", "order", "start", "goal"] []
  f_does_rise : mg "does_rise" = some (.ref (He.fAd K ("does_rise", none)))
  d_accepts_way : ∃ fd, FunD K "accepts_way" "accepts_way" (defArgs s_accepts_way) (defBody s_accepts_way) (defScope s_accepts_way) [] [] (He.fAd K ("accepts_way", none)) fd ∧ Binds K fd ["word", "notes", "claim", "certificate"] []
  f_accepts_way : mg "accepts_way" = some (.ref (He.fAd K ("accepts_way", none)))
  d_is_lot_checker : ∃ fd, FunD K "is_lot" "is_lot" (defArgs s_is_lot_checker) (defBody s_is_lot_checker) (defScope s_is_lot_checker) [] [] (He.fAd K ("is_lot_checker", none)) fd ∧ Binds K fd ["board", "peaks"] []
  f_is_lot_checker : mg "is_lot_checker" = some (.ref (He.fAd K ("is_lot_checker", none)))
  g_list : mg "list" = none
  d_told_peaks : ∃ fd, FunD K "told_peaks" "told_peaks" (defArgs s_told_peaks) (defBody s_told_peaks) (defScope s_told_peaks) [] [] (He.fAd K ("told_peaks", none)) fd ∧ Binds K fd ["notes", "peaks"] []
  f_told_peaks : mg "told_peaks" = some (.ref (He.fAd K ("told_peaks", none)))
  d_can_be_all : ∃ fd, FunD K "can_be_all" "can_be_all" (defArgs s_can_be_all) (defBody s_can_be_all) (defScope s_can_be_all) [] [] (He.fAd K ("can_be_all", none)) fd ∧ Binds K fd ["notes", "peaks"] []
  f_can_be_all : mg "can_be_all" = some (.ref (He.fAd K ("can_be_all", none)))
  d_accepts_peaks : ∃ fd, FunD K "accepts_peaks" "accepts_peaks" (defArgs s_accepts_peaks) (defBody s_accepts_peaks) (defScope s_accepts_peaks) [] [] (He.fAd K ("accepts_peaks", none)) fd ∧ Binds K fd ["word", "notes", "peaks", "certificate"] []
  f_accepts_peaks : mg "accepts_peaks" = some (.ref (He.fAd K ("accepts_peaks", none)))
  d_accepts : ∃ fd, FunD K "accepts" "accepts" (defArgs s_accepts) (defBody s_accepts) (defScope s_accepts) [] [] (He.fAd K ("accepts", none)) fd ∧ Binds K fd ["claim", "certificate"] []
  f_accepts : mg "accepts" = some (.ref (He.fAd K ("accepts", none)))
  g_repr : mg "repr" = none
  g_max : mg "max" = none
  g_min : mg "min" = none
  g_divmod : mg "divmod" = none
  d__law_take : ∃ fd, FunD K "_law_take" "_law_take" (defArgs s__law_take) (defBody s__law_take) (defScope s__law_take) [] [] (He.fAd K ("_law_take", none)) fd ∧ Binds K fd ["bag", "many"] []
  f__law_take : mg "_law_take" = some (.ref (He.fAd K ("_law_take", none)))
  d__law_of : ∃ fd, FunD K "_law_of" "_law_of" (defArgs s__law_of) (defBody s__law_of) (defScope s__law_of) [] [] (He.fAd K ("_law_of", none)) fd ∧ Binds K fd ["bag", "things"] []
  f__law_of : mg "_law_of" = some (.ref (He.fAd K ("_law_of", none)))
  d__law_spread : ∃ fd, FunD K "_law_spread" "_law_spread" (defArgs s__law_spread) (defBody s__law_spread) (defScope s__law_spread) [] [] (He.fAd K ("_law_spread", none)) fd ∧ Binds K fd ["text_here"] []
  f__law_spread : mg "_law_spread" = some (.ref (He.fAd K ("_law_spread", none)))
  d__law_mixed : ∃ fd, FunD K "_law_mixed" "_law_mixed" (defArgs s__law_mixed) (defBody s__law_mixed) (defScope s__law_mixed) [] [] (He.fAd K ("_law_mixed", none)) fd ∧ Binds K fd ["bag", "things"] []
  f__law_mixed : mg "_law_mixed" = some (.ref (He.fAd K ("_law_mixed", none)))
  d__law_apart : ∃ fd, FunD K "_law_apart" "_law_apart" (defArgs s__law_apart) (defBody s__law_apart) (defScope s__law_apart) [] [] (He.fAd K ("_law_apart", none)) fd ∧ Binds K fd ["one", "two"] []
  f__law_apart : mg "_law_apart" = some (.ref (He.fAd K ("_law_apart", none)))
  d__law_seen : ∃ fd, FunD K "_law_seen" "_law_seen" (defArgs s__law_seen) (defBody s__law_seen) (defScope s__law_seen) [] [] (He.fAd K ("_law_seen", none)) fd ∧ Binds K fd ["bag", "line"] []
  f__law_seen : mg "_law_seen" = some (.ref (He.fAd K ("_law_seen", none)))
  d__law_world : ∃ fd, FunD K "_law_world" "_law_world" (defArgs s__law_world) (defBody s__law_world) (defScope s__law_world) [] [] (He.fAd K ("_law_world", none)) fd ∧ Binds K fd ["bag", "menu"] []
  f__law_world : mg "_law_world" = some (.ref (He.fAd K ("_law_world", none)))
  d__law_sheet : ∃ fd, FunD K "_law_sheet" "_law_sheet" (defArgs s__law_sheet) (defBody s__law_sheet) (defScope s__law_sheet) [] [] (He.fAd K ("_law_sheet", none)) fd ∧ Binds K fd ["text_here", "seen_here"] []
  f__law_sheet : mg "_law_sheet" = some (.ref (He.fAd K ("_law_sheet", none)))
  d__law_lines : ∃ fd, FunD K "_law_lines" "_law_lines" (defArgs s__law_lines) (defBody s__law_lines) (defScope s__law_lines) [] [] (He.fAd K ("_law_lines", none)) fd ∧ Binds K fd ["all_here", "seen_here"] []
  f__law_lines : mg "_law_lines" = some (.ref (He.fAd K ("_law_lines", none)))
  d__law_near : ∃ fd, FunD K "_law_near" "_law_near" (defArgs s__law_near) (defBody s__law_near) (defScope s__law_near) [] [] (He.fAd K ("_law_near", none)) fd ∧ Binds K fd ["all_here", "one"] []
  f__law_near : mg "_law_near" = some (.ref (He.fAd K ("_law_near", none)))
  d__law_tops : ∃ fd, FunD K "_law_tops" "_law_tops" (defArgs s__law_tops) (defBody s__law_tops) (defScope s__law_tops) [] [] (He.fAd K ("_law_tops", none)) fd ∧ Binds K fd ["line", "lot"] []
  f__law_tops : mg "_law_tops" = some (.ref (He.fAd K ("_law_tops", none)))
  d__law_said : ∃ fd, FunD K "_law_said" "_law_said" (defArgs s__law_said) (defBody s__law_said) (defScope s__law_said) [] [] (He.fAd K ("_law_said", none)) fd ∧ Binds K fd ["asked", "proof_here", "due"] []
  f__law_said : mg "_law_said" = some (.ref (He.fAd K ("_law_said", none)))
  d__law_bent_line : ∃ fd, FunD K "_law_bent_line" "_law_bent_line" (defArgs s__law_bent_line) (defBody s__law_bent_line) (defScope s__law_bent_line) [] [] (He.fAd K ("_law_bent_line", none)) fd ∧ Binds K fd ["bag", "line"] []
  f__law_bent_line : mg "_law_bent_line" = some (.ref (He.fAd K ("_law_bent_line", none)))
  d__law_is_line : ∃ fd, FunD K "_law_is_line" "_law_is_line" (defArgs s__law_is_line) (defBody s__law_is_line) (defScope s__law_is_line) [] [] (He.fAd K ("_law_is_line", none)) fd ∧ Binds K fd ["all_here", "thing"] []
  f__law_is_line : mg "_law_is_line" = some (.ref (He.fAd K ("_law_is_line", none)))
  d__law_fits : ∃ fd, FunD K "_law_fits" "_law_fits" (defArgs s__law_fits) (defBody s__law_fits) (defScope s__law_fits) [] [] (He.fAd K ("_law_fits", none)) fd ∧ Binds K fd ["line", "seen_here"] []
  f__law_fits : mg "_law_fits" = some (.ref (He.fAd K ("_law_fits", none)))
  d__law_right : ∃ fd, FunD K "_law_right" "_law_right" (defArgs s__law_right) (defBody s__law_right) (defScope s__law_right) [] [] (He.fAd K ("_law_right", none)) fd ∧ Binds K fd ["bag"] []
  f__law_right : mg "_law_right" = some (.ref (He.fAd K ("_law_right", none)))
  g_abs : mg "abs" = none
  d__law_bag : ∃ fd, FunD K "_law_bag" "_law_bag" (defArgs s__law_bag) (defBody s__law_bag) (defScope s__law_bag) [] [] (He.fAd K ("_law_bag", none)) fd ∧ Binds K fd ["script", "spot"] []
  f__law_bag : mg "_law_bag" = some (.ref (He.fAd K ("_law_bag", none)))
  d_law : ∃ fd, FunD K "law" "law" (defArgs s_law) (defBody s_law) (defScope s_law) [] [] (He.fAd K ("law", none)) fd ∧ Binds K fd ["script"] []
  f_law : mg "law" = some (.ref (He.fAd K ("law", none)))
theorem Fx.hK {P : Program} {w : World} {K : PySem.W.Frag} {mg : Str → Option Value} {base : Heap} (_ : Fx P w K mg base) : (WK K).K = K := rfl
section
variable {P : Program} {w : World} {K : PySem.W.Frag} {mg : Str → Option Value} {base : Heap}
theorem sc_settings_in : FnScope ["part", "found", "stands", "begun", "stand"] ["part"] (defScope s_settings_in) := ⟨rfl, rfl, rfl, by decide +kernel, rfl, by decide +kernel, by decide +kernel⟩
def m_settings_in : List D → M D
  | [d0] => runS (S := Unit) (((aCons (pure (D.str ("" : Str))) aNil) D dLst) >>= fun v1 => seqF (T := D) ((b1 items (pure d0)) >>= fun ds => forD (S := D) (fun s2 d => on1 (fun c3 => ((b1 items (pure s2)) >>= fun ds => lc2D on1 (fun c4 => pure true) (fun c4 => b1 items (pure c3)) (fun c4 d => on1 (lcB (fun c5 => pure true) (fun c5 => b2 dAdd (pure c4) (pure c5))) d) ds []) >>= fun v6 => pure (.nx (D.lst v6))) d) ds v1) fun s2 => mRet (pure s2))
  | _ => stuck
theorem okG_settings_in (x : Fx P w K mg base) : ∃ fd, FnG P w K mg base 1 (He.fAd K ("settings_in", none)) fd ["part"] (spD (WK K) 1 m_settings_in) ∧ FunD K "settings_in" "settings_in" (defArgs s_settings_in) (defBody s_settings_in) (defScope s_settings_in) [] [] (He.fAd K ("settings_in", none)) fd ∧ Binds K fd ["part"] [] := by
  obtain ⟨fd, F, B⟩ := x.d_settings_in
  refine ⟨fd, fn_body (n := 1) F sc_settings_in rfl fun cdv A fr s H E ds hl b tk hp => ?_, F, B⟩
  match ds, hl with
  | [d0], _ => exact ⟨_, ds_set 1 sc_settings_in.nd (dx_e (pd_lst (da_cons pd_str da_nil))) (fun v1 => ds_seq (mkT := fun (s2 : D) => [.d d0, .d s2, .un, .un, .un]) (d1_for (S := D) (mk := fun (s2 : D) => [.d d0, .d s2, .un, .un, .un]) (s0 := v1) x.hK hp rfl (di_of x.hK (pd_var (d := d0) 0)) (tg1 2 sc_settings_in.nd) (.s (.s (.u (.u (.u .n))))) (fun s2 c3 => ds_setLc2 1 [4] x.hK rfl sc_settings_in.nd (dj_of (di_of x.hK (pd_var (d := s2) 1))) (own := [("begun", 3), ("stand", 4)]) (blk_of (by rfl)) (fun s H C cl fp => tg1 3 sc_settings_in.nd) (fun s H C cl fp c4 => ts_nil) (fun s H C cl fp c4 => di_of x.hK (pd_var (d := c3) 2)) (fun s H C cl fp => tg1 4 sc_settings_in.nd) (fun s H C cl fp c4 c5 => ts_nil) (fun s H C cl fp c4 c5 => pd_add x.hK (pd_var (d := c4) 3) (pd_var (d := c5) 4)) (fun v6 => ds_froz (xs := v6) 1 rfl (ds_nil (s := (D.lst v6)) (.s (.s (.u (.u (.u .n))))))) (sw_true rfl rfl rfl (by decide +kernel))) (fun k l d => on1_bind k l d)) (fun s2 => ds_last (d1_ret (pd_var (d := s2) 1)))), rfl⟩
theorem ok_settings_in (x : Fx P w K mg base) : FnB P w K mg base (WK K) 1 (He.fAd K ("settings_in", none)) m_settings_in 1 [] fun ds _ => ds := by
  obtain ⟨fd, G, F, B⟩ := okG_settings_in x
  exact fnB_all G F B rfl
theorem sc_is_within : FnScope ["value", "least", "most"] ["value", "least", "most"] (defScope s_is_within) := ⟨rfl, rfl, rfl, by decide +kernel, rfl, by decide +kernel, by decide +kernel⟩
def m_is_within : List D → M D
  | [d0, d1, d2] => runS (S := Unit) (mRet (vAnd ((pure d0) >>= isiD (tblT "int" [])) (vAnd (vNot ((pure d0) >>= isiD (tblT "bool" []))) (mChain dLe dLe (pure d1) (pure d0) (pure d2)))))
  | _ => stuck
theorem okG_is_within (x : Fx P w K mg base) : ∃ fd, FnG P w K mg base 1 (He.fAd K ("is_within", none)) fd ["value", "least", "most"] (spD (WK K) 3 m_is_within) ∧ FunD K "is_within" "is_within" (defArgs s_is_within) (defBody s_is_within) (defScope s_is_within) [] [] (He.fAd K ("is_within", none)) fd ∧ Binds K fd ["value", "least", "most"] [] := by
  obtain ⟨fd, F, B⟩ := x.d_is_within
  refine ⟨fd, fn_body (n := 3) F sc_is_within rfl fun cdv A fr s H E ds hl b tk hp => ?_, F, B⟩
  match ds, hl with
  | [d0, d1, d2], _ => exact ⟨_, ds_last (d1_ret (pd_and (pd_isiT x.hK x.g_isinstance x.g_int (by decide +kernel) (tbl_T (by decide)) (pd_var (d := d0) 0)) (pd_and (pd_not (pd_isiT x.hK x.g_isinstance x.g_bool (by decide +kernel) (tbl_T (by decide)) (pd_var (d := d0) 0))) (pd_one (pd_chainLeLe (pd_var (d := d1) 1) (pd_var (d := d0) 0) (pd_var (d := d2) 2)))))), rfl⟩
theorem ok_is_within (x : Fx P w K mg base) : FnB P w K mg base (WK K) 1 (He.fAd K ("is_within", none)) m_is_within 3 [] fun ds _ => ds := by
  obtain ⟨fd, G, F, B⟩ := okG_is_within x
  exact fnB_all G F B rfl
theorem sc_check_sizes : FnScope ["sizes", "many", "index"] ["sizes"] (defScope s_check_sizes) := ⟨rfl, rfl, rfl, by decide +kernel, rfl, by decide +kernel, by decide +kernel⟩
def m_check_sizes : List D → M D
  | [d0] => runS (S := Unit) (seqF (T := Unit) (mIf (mOr (mNot (b1 asB ((pure d0) >>= isiD (tblT "tuple" [])))) (b1 asB (b2 dEq (pure d0) (aNil D dTup)))) ((pure D.non) >>= fun d => raise ⟨"InvalidSizes", some ("index", d)⟩) (pure (.nx ()))) fun _ => (pure (D.int 1)) >>= fun v1 => seqF (T := D) (((aCons (aCons (pure d0) aNil D dLen) aNil) (List D) fRange1) >>= fun ds => forD (S := D) (fun s2 d => on1 (fun c3 => seqF (T := Unit) (mIf (mOr (b1 asB (b2 dEq (pure c3) (pure (D.int 5)))) (mOr (mNot (b1 asB ((aCons (b2 dIxA (pure d0) (pure c3)) (aCons (pure (D.int 2)) (aCons (pure (D.int 3)) aNil))) D (cB 3 m_is_within fun ds _ => ds)))) (b1 asB (b2 dGt (b2 dMul (pure s2) (b2 dIxA (pure d0) (pure c3))) (pure (D.int 48)))))) ((pure c3) >>= fun d => raise ⟨"InvalidSizes", some ("index", d)⟩) (pure (.nx ()))) fun _ => (b2 dMul (pure s2) (b2 dIxA (pure d0) (pure c3))) >>= fun v4 => pure (.nx v4)) d) ds v1) fun s2 => pure (.nx ()))
  | _ => stuck
theorem okG_check_sizes (x : Fx P w K mg base) : ∃ fd, FnG P w K mg base 3 (He.fAd K ("check_sizes", none)) fd ["sizes"] (spD (WK K) 1 m_check_sizes) ∧ FunD K "check_sizes" "check_sizes" (defArgs s_check_sizes) (defBody s_check_sizes) (defScope s_check_sizes) [] [] (He.fAd K ("check_sizes", none)) fd ∧ Binds K fd ["sizes"] [] := by
  obtain ⟨fd, F, B⟩ := x.d_check_sizes
  refine ⟨fd, fn_body (n := 1) F sc_check_sizes rfl fun cdv A fr s H E ds hl b tk hp => ?_, F, B⟩
  match ds, hl with
  | [d0], _ => exact ⟨_, ds_seq (mkT := fun (_ : Unit) => [.d d0, .un, .un]) (d1_if (pt_w (pw_or (pt_not (pt_val (pd_isiT x.hK x.g_isinstance x.g_tuple (by decide +kernel) (tbl_T (by decide)) (pd_var (d := d0) 0)))) (pw_or1 (pt_eq x.hK b (pd_var (d := d0) 0) (pd_tup da_nil))))) (ds_last (d1_raise (c0 := "InvalidSizes") (fld := "index") x.ex_InvalidSizes (b.mono (by decide)) rfl tk x.gc_InvalidSizes pd_non)) (ds_nil (s := ()) (.s (.u (.u .n))))) (fun _ => ds_set 1 sc_check_sizes.nd (dx_e pd_int) (fun v1 => ds_seq (mkT := fun (s2 : D) => [.d d0, .d s2, .un]) (d1_for (S := D) (mk := fun (s2 : D) => [.d d0, .d s2, .un]) (s0 := v1) x.hK hp rfl (di_range1 x.g_range (da_cons (pd_len x.hK x.g_len (pd_var (d := d0) 0)) da_nil)) (tg1 2 sc_check_sizes.nd) (.s (.s (.u .n))) (fun s2 c3 => ds_seq (mkT := fun (_ : Unit) => [.d d0, .d s2, .d c3]) (d1_if (pt_w (pw_or (pt_eq x.hK b (pd_var (d := c3) 2) (pd_gintE x.c_MOST_SWITCHES)) (pw_or (pt_not (pt_val (pd_call ((ok_is_within x).mono (by decide)) b tk x.f_is_within (da_cons (pd_ixA x.hK (pd_var (d := d0) 0) (pd_var (d := c3) 2)) (da_cons pd_int (da_cons pd_int da_nil)))))) (pw_or1 (pt_gt (pd_mul (pd_var (d := s2) 1) (pd_ixA x.hK (pd_var (d := d0) 0) (pd_var (d := c3) 2))) (pd_gintE x.c_MOST_SETTINGS)))))) (ds_last (d1_raise (c0 := "InvalidSizes") (fld := "index") x.ex_InvalidSizes (b.mono (by decide)) rfl tk x.gc_InvalidSizes (pd_var (d := c3) 2))) (ds_nil (s := ()) (.s (.s (.s .n))))) (fun _ => ds_set 1 sc_check_sizes.nd (dx_e (pd_mul (pd_var (d := s2) 1) (pd_ixA x.hK (pd_var (d := d0) 0) (pd_var (d := c3) 2)))) (fun v4 => ds_nil (s := v4) (.s (.s (.u .n)))))) (fun k l d => on1_bind k l d)) (fun s2 => ds_nil (s := ()) (.u (.u (.u .n)))))), rfl⟩
theorem ok_check_sizes (x : Fx P w K mg base) : FnB P w K mg base (WK K) 3 (He.fAd K ("check_sizes", none)) m_check_sizes 1 [] fun ds _ => ds := by
  obtain ⟨fd, G, F, B⟩ := okG_check_sizes x
  exact fnB_all G F B rfl
theorem sc_Board_init : FnScope ["self", "sizes", "size"] ["self", "sizes"] (defScope s_Board_init) := ⟨rfl, rfl, rfl, by decide +kernel, rfl, by decide +kernel, by decide +kernel⟩
def m_Board_init : List D → M D
  | [d1] => ((aCons (pure d1) aNil) D (cB 1 m_check_sizes fun ds _ => ds)) >>= fun _ => (aCons (pure d1) (aCons (aCons ((aCons (mLst ((b1 items (pure d1)) >>= fun ds => lcD (fun d => on1 (lcB (fun c1 => pure true) (fun c1 => (pure c1) >>= mdIxI kv_STANDS)) d) ds [])) aNil) D (cB 1 m_settings_in fun ds _ => ds)) aNil D cTuple) aNil)) D dTup
  | _ => stuck
theorem ok_Board_init (x : Fx P w K mg base) : FnI P w K mg base (WK K) 4 (He.fAd K ("Board", some "__init__")) (He.ga K "Board") m_Board_init 1 fun ds _ => ds := by
  obtain ⟨fd, F, B⟩ := x.d_Board_init
  refine fnI_all (fd := fd) (ps := ["self", "sizes"]) (fn_init F sc_Board_init rfl fun cdv A fr s H E ds hl b tk => ?_) B rfl
  match ds, hl with
  | [d1], _ => exact di_expr (pd_call ((ok_check_sizes x).mono (by decide)) b tk x.f_check_sizes (da_cons (pd_var (d := d1) 1) da_nil)) (di_last (x := "self") rfl x.cl_Board x.na_Board_both (pd_tup (da_cons (pd_var (d := d1) 1) (da_cons (pd_tuple x.hK x.g_tuple (pd_call ((ok_settings_in x).mono (by decide)) b tk x.f_settings_in (da_cons (pd_new (pn_lc x.hK rfl sc_Board_init.nd (dj_of (di_of x.hK (pd_var (d := d1) 1))) (own := [("size", 2)]) (blk_of (by rfl)) (fun s H C cl fp => tg1 2 sc_Board_init.nd) (fun s H C cl fp c1 => ts_nil) (fun s H C cl fp c1 => pd_ixMdI x.t_STANDS x.tg_STANDS (pd_var (d := c1) 2)))) da_nil))) da_nil))))
theorem sc_board_told : FnScope ["text", "sign"] ["text"] (defScope s_board_told) := ⟨rfl, rfl, rfl, by decide +kernel, rfl, by decide +kernel, by decide +kernel⟩
def m_board_told : List D → M D
  | [d0] => runS (S := Unit) (seqF (T := Unit) (mIf (mOr (mNot (b1 asB ((pure d0) >>= isiD (tblT "str" [])))) (mNot (b1 asB (aCons (mLst ((b1 items (pure d0)) >>= fun ds => lcD (fun d => on1 (lcB (fun c1 => pure true) (fun c1 => (pure c1) >>= mdIn false kv_DIGITS)) d) ds [])) aNil D fAll)))) (mRet (pure D.non)) (pure (.nx ()))) fun _ => tryM "InvalidSizes" [] (mRet ((aCons (aCons (mLst ((b1 items (pure d0)) >>= fun ds => lcD (fun d => on1 (lcB (fun c2 => pure true) (fun c2 => (pure c2) >>= mdIx kv_DIGITS)) d) ds [])) aNil D cTuple) aNil) D (cI "Board" 1 m_Board_init fun ds _ => ds))) (mRet (pure D.non)))
  | _ => stuck
theorem okG_board_told (x : Fx P w K mg base) : ∃ fd, FnG P w K mg base 6 (He.fAd K ("board_told", none)) fd ["text"] (spD (WK K) 1 m_board_told) ∧ FunD K "board_told" "board_told" (defArgs s_board_told) (defBody s_board_told) (defScope s_board_told) [] [] (He.fAd K ("board_told", none)) fd ∧ Binds K fd ["text"] [] := by
  obtain ⟨fd, F, B⟩ := x.d_board_told
  refine ⟨fd, fn_body (n := 1) F sc_board_told rfl fun cdv A fr s H E ds hl b tk hp => ?_, F, B⟩
  match ds, hl with
  | [d0], _ => exact ⟨_, ds_seq (mkT := fun (_ : Unit) => [.d d0, .un]) (d1_if (pt_w (pw_or (pt_not (pt_val (pd_isiT x.hK x.g_isinstance x.g_str (by decide +kernel) (tbl_T (by decide)) (pd_var (d := d0) 0)))) (pw_or1 (pt_not (pt_val (pd_all (pd_new (pn_lc x.hK rfl sc_board_told.nd (dj_of (di_of x.hK (pd_var (d := d0) 0))) (own := [("sign", 1)]) (blk_of (by rfl)) (fun s H C cl fp => tg1 1 sc_board_told.nd) (fun s H C cl fp c1 => ts_nil) (fun s H C cl fp c1 => pd_inMd x.t_DIGITS x.tg_DIGITS (pd_var (d := c1) 1)))) rfl x.g_all)))))) (ds_last (d1_ret pd_non)) (ds_nil (s := ()) (.s (.u .n)))) (fun _ => ds_last (d1_try (c0 := "InvalidSizes") (oth := []) rfl rfl tk x.gc_InvalidSizes x.exm_InvalidSizes_InvalidSizes (fun c h => nomatch h) (fun Wy pn xe t pp => ds_last (d1_ret (pd_make (c0 := "Board") x.mk_Board ((ok_Board_init x).mono (by decide)) ⟨b.rm, b.gd⟩ t x.gc_Board (da_cons (pd_tuple x.hK x.g_tuple (pd_new (pn_lc x.hK rfl sc_board_told.nd (dj_of (di_of x.hK (pd_var (d := d0) 0))) (own := [("sign", 1)]) (blk_of (by rfl)) (fun s H C cl fp => tg1 1 sc_board_told.nd) (fun s H C cl fp c2 => ts_nil) (fun s H C cl fp c2 => pd_ixMd x.t_DIGITS x.tg_DIGITS (pd_var (d := c2) 1))))) da_nil)))) (fun a pn => ds_last (d1_ret pd_non)))), rfl⟩
theorem ok_board_told (x : Fx P w K mg base) : FnB P w K mg base (WK K) 6 (He.fAd K ("board_told", none)) m_board_told 1 [] fun ds _ => ds := by
  obtain ⟨fd, G, F, B⟩ := okG_board_told x
  exact fnB_all G F B rfl
theorem sc_Board_contains : FnScope ["self", "value"] ["self", "value"] (defScope s_Board_contains) := ⟨rfl, rfl, rfl, by decide +kernel, rfl, by decide +kernel, by decide +kernel⟩
def m_Board_contains : List D → M D
  | [d0, d1] => runS (S := Unit) (mRet (vAnd ((pure d1) >>= isiD (tblT "str" [])) (b2 dIn (pure d1) (b2 dIxA ((pure d0) >>= isO "Board" oBoth) (pure (D.int 1))))))
  | _ => stuck
theorem okG_Board_contains (x : Fx P w K mg base) : ∃ fd, FnG P w K mg base 1 (He.fAd K ("Board", some "__contains__")) fd ["self", "value"] (spD (WK K) 2 m_Board_contains) ∧ FunD K "__contains__" "Board.__contains__" (defArgs s_Board_contains) (defBody s_Board_contains) (defScope s_Board_contains) [] [] (He.fAd K ("Board", some "__contains__")) fd ∧ Binds K fd ["self", "value"] [] := by
  obtain ⟨fd, F, B⟩ := x.d_Board_contains
  refine ⟨fd, fn_body (n := 2) F sc_Board_contains rfl fun cdv A fr s H E ds hl b tk hp => ?_, F, B⟩
  match ds, hl with
  | [d0, d1], _ => exact ⟨_, ds_last (d1_ret (pd_and (pd_isiT x.hK x.g_isinstance x.g_str (by decide +kernel) (tbl_T (by decide)) (pd_var (d := d1) 1)) (pd_one (pd_in x.hK b (pd_var (d := d1) 1) (pd_ixA x.hK (pd_both (c0 := "Board") x.cl_Board x.na_Board_both (pd_var (d := d0) 0)) pd_int))))), rfl⟩
theorem ok_Board_contains (x : Fx P w K mg base) : FnB P w K mg base (WK K) 1 (He.fAd K ("Board", some "__contains__")) m_Board_contains 2 [] fun ds _ => ds := by
  obtain ⟨fd, G, F, B⟩ := okG_Board_contains x
  exact fnB_all G F B rfl
theorem sc_are_neighbours : FnScope ["one", "other", "k"] ["one", "other"] (defScope s_are_neighbours) := ⟨rfl, rfl, rfl, by decide +kernel, rfl, by decide +kernel, by decide +kernel⟩
def m_are_neighbours : List D → M D
  | [d0, d1] => runS (S := Unit) (mRet (b2 dEq (aCons (mLst (((aCons (aCons (pure d0) aNil D dLen) aNil) (List D) fRange1) >>= fun ds => lcD (fun d => on1 (lcB (fun c1 => b1 asB (b2 dNe (b2 dIxA (pure d0) (pure c1)) (b2 dIxA (pure d1) (pure c1)))) (fun c1 => pure c1)) d) ds [])) aNil D dLen) (pure (D.int 1))))
  | _ => stuck
theorem okG_are_neighbours (x : Fx P w K mg base) : ∃ fd, FnG P w K mg base 1 (He.fAd K ("are_neighbours", none)) fd ["one", "other"] (spD (WK K) 2 m_are_neighbours) ∧ FunD K "are_neighbours" "are_neighbours" (defArgs s_are_neighbours) (defBody s_are_neighbours) (defScope s_are_neighbours) [] [] (He.fAd K ("are_neighbours", none)) fd ∧ Binds K fd ["one", "other"] [] := by
  obtain ⟨fd, F, B⟩ := x.d_are_neighbours
  refine ⟨fd, fn_body (n := 2) F sc_are_neighbours rfl fun cdv A fr s H E ds hl b tk hp => ?_, F, B⟩
  match ds, hl with
  | [d0, d1], _ => exact ⟨_, ds_last (d1_ret (pd_eq x.hK b (pd_len x.hK x.g_len (pd_new (pn_lc x.hK rfl sc_are_neighbours.nd (dj_of (di_range1 x.g_range (da_cons (pd_len x.hK x.g_len (pd_var (d := d0) 0)) da_nil))) (own := [("k", 2)]) (blk_of (by rfl)) (fun s H C cl fp => tg1 2 sc_are_neighbours.nd) (fun s H C cl fp c1 => ts_one (pt_ne x.hK ⟨b.rm, b.gd⟩ (pd_ixA x.hK (pd_var (d := d0) 0) (pd_var (d := c1) 2)) (pd_ixA x.hK (pd_var (d := d1) 1) (pd_var (d := c1) 2)))) (fun s H C cl fp c1 => pd_var (d := c1) 2)))) pd_int)), rfl⟩
theorem ok_are_neighbours (x : Fx P w K mg base) : FnB P w K mg base (WK K) 1 (He.fAd K ("are_neighbours", none)) m_are_neighbours 2 [] fun ds _ => ds := by
  obtain ⟨fd, G, F, B⟩ := okG_are_neighbours x
  exact fnB_all G F B rfl
theorem sc_is_fact : FnScope ["board", "value"] ["board", "value"] (defScope s_is_fact) := ⟨rfl, rfl, rfl, by decide +kernel, rfl, by decide +kernel, by decide +kernel⟩
def m_is_fact : List D → M D
  | [d0, d1] => runS (S := Unit) (seqF (T := Unit) (mIf (mOr (mNot (b1 asB ((pure d1) >>= isiD (tblT "tuple" [])))) (b1 asB (b2 dNe (aCons (pure d1) aNil D dLen) (pure (D.int 2))))) (mRet (pure (D.bl false))) (pure (.nx ()))) fun _ => mRet (vAnd (b2 (oIn "Board" false m_Board_contains (fun ds _ => ds)) (b2 dIxA (pure d1) (pure (D.int 0))) (pure d0)) (vAnd (b2 (oIn "Board" false m_Board_contains (fun ds _ => ds)) (b2 dIxA (pure d1) (pure (D.int 1))) (pure d0)) ((aCons (b2 dIxA (pure d1) (pure (D.int 0))) (aCons (b2 dIxA (pure d1) (pure (D.int 1))) aNil)) D (cB 2 m_are_neighbours fun ds _ => ds)))))
  | _ => stuck
theorem okG_is_fact (x : Fx P w K mg base) : ∃ fd, FnG P w K mg base 2 (He.fAd K ("is_fact", none)) fd ["board", "value"] (spD (WK K) 2 m_is_fact) ∧ FunD K "is_fact" "is_fact" (defArgs s_is_fact) (defBody s_is_fact) (defScope s_is_fact) [] [] (He.fAd K ("is_fact", none)) fd ∧ Binds K fd ["board", "value"] [] := by
  obtain ⟨fd, F, B⟩ := x.d_is_fact
  refine ⟨fd, fn_body (n := 2) F sc_is_fact rfl fun cdv A fr s H E ds hl b tk hp => ?_, F, B⟩
  match ds, hl with
  | [d0, d1], _ => exact ⟨_, ds_seq (mkT := fun (_ : Unit) => [.d d0, .d d1]) (d1_if (pt_w (pw_or (pt_not (pt_val (pd_isiT x.hK x.g_isinstance x.g_tuple (by decide +kernel) (tbl_T (by decide)) (pd_var (d := d1) 1)))) (pw_or1 (pt_ne x.hK b (pd_len x.hK x.g_len (pd_var (d := d1) 1)) pd_int)))) (ds_last (d1_ret pd_bl)) (ds_nil (s := ()) (.s (.s .n)))) (fun _ => ds_last (d1_ret (pd_and (pd_inO ((ok_Board_contains x).mono (by decide)) b tk x.fi_Board___contains__ x.fn_Board___contains__ (pd_ixA x.hK (pd_var (d := d1) 1) pd_int) (pd_var (d := d0) 0)) (pd_and (pd_inO ((ok_Board_contains x).mono (by decide)) b tk x.fi_Board___contains__ x.fn_Board___contains__ (pd_ixA x.hK (pd_var (d := d1) 1) pd_int) (pd_var (d := d0) 0)) (pd_one (pd_call ((ok_are_neighbours x).mono (by decide)) b tk x.f_are_neighbours (da_cons (pd_ixA x.hK (pd_var (d := d1) 1) pd_int) (da_cons (pd_ixA x.hK (pd_var (d := d1) 1) pd_int) da_nil)))))))), rfl⟩
theorem ok_is_fact (x : Fx P w K mg base) : FnB P w K mg base (WK K) 2 (He.fAd K ("is_fact", none)) m_is_fact 2 [] fun ds _ => ds := by
  obtain ⟨fd, G, F, B⟩ := okG_is_fact x
  exact fnB_all G F B rfl
theorem sc_leads : FnScope ["facts", "start", "goal", "seen", "waiting", "place", "worse", "better"] ["facts", "start", "goal"] (defScope s_leads) := ⟨rfl, rfl, rfl, by decide +kernel, rfl, by decide +kernel, by decide +kernel⟩
def m_leads : List D → M D
  | [d0, d1, d2] => runS (S := Unit) (mTwo ((aCons (pure d1) aNil) (List D) nLst) ((aCons (pure d1) aNil) (List D) nLst) fun v1 v2 => seqF (T := List D × List D) (whileD (S := List D × List D) (fun s3 => b1 asB (b2 qNe (pure (false, s3.1)) (aNil D dLst))) (fun s3 => mPop s3.1 fun v4 => seqF (T := List D × List D) ((b1 items (pure d0)) >>= fun ds => forD (S := List D × List D) (fun s5 d => on2 (fun c6 => mIf (mAnd (b1 asB (b2 dEq (pure c6.1) (pure v4))) (b1 asB (b2 qNotIn (pure c6.2) (pure (false, s5.1))))) (mApp (pure c6.2) s5.1 fun v7 => mApp (pure c6.2) s5.2 fun v8 => pure (.nx (s5.1 ++ [v7], s5.2 ++ [v8]))) (pure (.nx (s5.1, s5.2)))) d) ds (s3.2, s3.1.dropLast)) fun s5 => pure (.nx (s5.2, s5.1))) 200 (v2, v1)) fun s3 => mRet (b2 qIn (pure d2) (pure (false, s3.2))))
  | _ => stuck
theorem okG_leads (x : Fx P w K mg base) : ∃ fd, FnG P w K mg base 1 (He.fAd K ("leads", none)) fd ["facts", "start", "goal"] (spD (WK K) 3 m_leads) ∧ FunD K "leads" "leads" (defArgs s_leads) (defBody s_leads) (defScope s_leads) [] [] (He.fAd K ("leads", none)) fd ∧ Binds K fd ["facts", "start", "goal"] [] := by
  obtain ⟨fd, F, B⟩ := x.d_leads
  refine ⟨fd, fn_body (n := 3) F sc_leads rfl fun cdv A fr s H E ds hl b tk hp => ?_, F, B⟩
  match ds, hl with
  | [d0, d1, d2], _ => exact ⟨_, ds_par 3 4 rfl sc_leads.nd (dx_n (pn_lst (da_cons (pd_var (d := d1) 1) da_nil))) (dx_n (pn_lst (da_cons (pd_var (d := d1) 1) da_nil))) (fun v1 v2 => ds_seq (mkT := fun (s3 : List D × List D) => [.d d0, .d d1, .d d2, .ol s3.2, .ol s3.1, .un, .un, .un]) (d1_while (S := List D × List D) (mk := fun (s3 : List D × List D) => [.d d0, .d d1, .d d2, .ol s3.2, .ol s3.1, .un, .un, .un]) (s0 := (v2, v1)) 200 hp (.s (.s (.s (.s (.s (.u (.u (.u .n)))))))) (fun s3 => pt_neq x.hK b (pq_var (xs := s3.1) 4) (pd_lst da_nil)) (fun s3 => ds_setPop (xs := s3.1) 4 5 (by decide) rfl sc_leads.nd (fun v4 => ds_seq (mkT := fun (s5 : List D × List D) => [.d d0, .d d1, .d d2, .ol s5.1, .ol s5.2, .d v4, .un, .un]) (d1_for (S := List D × List D) (mk := fun (s5 : List D × List D) => [.d d0, .d d1, .d d2, .ol s5.1, .ol s5.2, .d v4, .un, .un]) (s0 := (s3.2, s3.1.dropLast)) x.hK hp rfl (di_of x.hK (pd_var (d := d0) 0)) (tg2 6 7 rfl rfl sc_leads.nd) (.s (.s (.s (.s (.s (.s (.u (.u .n)))))))) (fun s5 c6 => ds_last (d1_if (pt_w (pw_and (pt_eq x.hK b (pd_var (d := c6.1) 6) (pd_var (d := v4) 5)) (pw_and1 (pt_notInq x.hK b (pd_var (d := c6.2) 7) (pq_var (xs := s5.1) 3))))) (ds_append (xs := s5.1) 3 rfl (pd_var (d := c6.2) 7) (fun v7 => ds_append (xs := s5.2) 4 rfl (pd_var (d := c6.2) 7) (fun v8 => ds_nil (s := (s5.1 ++ [v7], s5.2 ++ [v8])) (.s (.s (.s (.s (.s (.s (.u (.u .n))))))))) (pv 4) (hb := (fun {t r} h k => pe_bm PySem.F.plainAttrs_list PySem.F.slot_list_append PySem.F.type_list_append h (pv 4) (pa_cons k pa_nil)))) (pv 3) (hb := (fun {t r} h k => pe_bm PySem.F.plainAttrs_list PySem.F.slot_list_append PySem.F.type_list_append h (pv 3) (pa_cons k pa_nil)))) (ds_nil (s := (s5.1, s5.2)) (.s (.s (.s (.s (.s (.s (.u (.u .n))))))))))) (fun k l d => on2_bind k l d)) (fun s5 => ds_nil (s := (s5.2, s5.1)) (.s (.s (.s (.s (.s (.u (.u (.u .n)))))))))) (fun {r} h => pe_bm0 PySem.F.plainAttrs_list PySem.F.slot_list_pop PySem.F.type_list_pop h (pv 4)))) (fun s3 => ds_last (d1_ret (pd_inq x.hK b (pd_var (d := d2) 2) (pq_var (xs := s3.2) 3))))), rfl⟩
theorem ok_leads (x : Fx P w K mg base) : FnB P w K mg base (WK K) 1 (He.fAd K ("leads", none)) m_leads 3 [] fun ds _ => ds := by
  obtain ⟨fd, G, F, B⟩ := okG_leads x
  exact fnB_all G F B rfl
theorem sc_is_let : FnScope ["facts", "fact"] ["facts", "fact"] (defScope s_is_let) := ⟨rfl, rfl, rfl, by decide +kernel, rfl, by decide +kernel, by decide +kernel⟩
def m_is_let : List D → M D
  | [d0, d1] => runS (S := Unit) (mRet (vAnd (b2 dNotIn (pure d1) (pure d0)) (vNot ((aCons (pure d0) (aCons (b2 dIxA (pure d1) (pure (D.int 1))) (aCons (b2 dIxA (pure d1) (pure (D.int 0))) aNil))) D (cB 3 m_leads fun ds _ => ds)))))
  | _ => stuck
theorem okG_is_let (x : Fx P w K mg base) : ∃ fd, FnG P w K mg base 2 (He.fAd K ("is_let", none)) fd ["facts", "fact"] (spD (WK K) 2 m_is_let) ∧ FunD K "is_let" "is_let" (defArgs s_is_let) (defBody s_is_let) (defScope s_is_let) [] [] (He.fAd K ("is_let", none)) fd ∧ Binds K fd ["facts", "fact"] [] := by
  obtain ⟨fd, F, B⟩ := x.d_is_let
  refine ⟨fd, fn_body (n := 2) F sc_is_let rfl fun cdv A fr s H E ds hl b tk hp => ?_, F, B⟩
  match ds, hl with
  | [d0, d1], _ => exact ⟨_, ds_last (d1_ret (pd_and (pd_notIn x.hK b (pd_var (d := d1) 1) (pd_var (d := d0) 0)) (pd_one (pd_not (pd_call ((ok_leads x).mono (by decide)) b tk x.f_leads (da_cons (pd_var (d := d0) 0) (da_cons (pd_ixA x.hK (pd_var (d := d1) 1) pd_int) (da_cons (pd_ixA x.hK (pd_var (d := d1) 1) pd_int) da_nil)))))))), rfl⟩
theorem ok_is_let (x : Fx P w K mg base) : FnB P w K mg base (WK K) 2 (He.fAd K ("is_let", none)) m_is_let 2 [] fun ds _ => ds := by
  obtain ⟨fd, G, F, B⟩ := okG_is_let x
  exact fnB_all G F B rfl
theorem sc_check_facts : FnScope ["board", "facts", "index"] ["board", "facts"] (defScope s_check_facts) := ⟨rfl, rfl, rfl, by decide +kernel, rfl, by decide +kernel, by decide +kernel⟩
def m_check_facts : List D → M D
  | [d0, d1] => runS (S := Unit) (seqF (T := Unit) (mIf (mNot (b1 asB ((pure d1) >>= isiD (tblT "tuple" [])))) ((pure D.non) >>= fun d => raise ⟨"InvalidFacts", some ("index", d)⟩) (pure (.nx ()))) fun _ => seqF (T := Unit) (((aCons (aCons (pure d1) aNil D dLen) aNil) (List D) fRange1) >>= fun ds => forD (S := Unit) (fun _ d => on1 (fun c2 => mIf (mOr (mNot (b1 asB ((aCons (pure d0) (aCons (b2 dIxA (pure d1) (pure c2)) aNil)) D (cB 2 m_is_fact fun ds _ => ds)))) (mNot (b1 asB ((aCons (mSl (pure d1) (pure none) (b1 asI (pure c2))) (aCons (b2 dIxA (pure d1) (pure c2)) aNil)) D (cB 2 m_is_let fun ds _ => ds))))) ((pure c2) >>= fun d => raise ⟨"InvalidFacts", some ("index", d)⟩) (pure (.nx ()))) d) ds ()) fun _ => pure (.nx ()))
  | _ => stuck
theorem okG_check_facts (x : Fx P w K mg base) : ∃ fd, FnG P w K mg base 3 (He.fAd K ("check_facts", none)) fd ["board", "facts"] (spD (WK K) 2 m_check_facts) ∧ FunD K "check_facts" "check_facts" (defArgs s_check_facts) (defBody s_check_facts) (defScope s_check_facts) [] [] (He.fAd K ("check_facts", none)) fd ∧ Binds K fd ["board", "facts"] [] := by
  obtain ⟨fd, F, B⟩ := x.d_check_facts
  refine ⟨fd, fn_body (n := 2) F sc_check_facts rfl fun cdv A fr s H E ds hl b tk hp => ?_, F, B⟩
  match ds, hl with
  | [d0, d1], _ => exact ⟨_, ds_seq (mkT := fun (_ : Unit) => [.d d0, .d d1, .un]) (d1_if (pt_not (pt_val (pd_isiT x.hK x.g_isinstance x.g_tuple (by decide +kernel) (tbl_T (by decide)) (pd_var (d := d1) 1)))) (ds_last (d1_raise (c0 := "InvalidFacts") (fld := "index") x.ex_InvalidFacts (b.mono (by decide)) rfl tk x.gc_InvalidFacts pd_non)) (ds_nil (s := ()) (.s (.s (.u .n))))) (fun _ => ds_seq (mkT := fun (_ : Unit) => [.d d0, .d d1, .un]) (d1_for (S := Unit) (mk := fun (_ : Unit) => [.d d0, .d d1, .un]) (s0 := ()) x.hK hp rfl (di_range1 x.g_range (da_cons (pd_len x.hK x.g_len (pd_var (d := d1) 1)) da_nil)) (tg1 2 sc_check_facts.nd) (.s (.s (.u .n))) (fun _ c2 => ds_last (d1_if (pt_w (pw_or (pt_not (pt_val (pd_call ((ok_is_fact x).mono (by decide)) b tk x.f_is_fact (da_cons (pd_var (d := d0) 0) (da_cons (pd_ixA x.hK (pd_var (d := d1) 1) (pd_var (d := c2) 2)) da_nil))))) (pw_or1 (pt_not (pt_val (pd_call ((ok_is_let x).mono (by decide)) b tk x.f_is_let (da_cons (pd_sl x.hK (pd_var (d := d1) 1) do_none (do_some (pd_var (d := c2) 2))) (da_cons (pd_ixA x.hK (pd_var (d := d1) 1) (pd_var (d := c2) 2)) da_nil)))))))) (ds_last (d1_raise (c0 := "InvalidFacts") (fld := "index") x.ex_InvalidFacts (b.mono (by decide)) rfl tk x.gc_InvalidFacts (pd_var (d := c2) 2))) (ds_nil (s := ()) (.s (.s (.u .n)))))) (fun k l d => on1_bind k l d)) (fun _ => ds_nil (s := ()) (.u (.u (.u .n))))), rfl⟩
theorem ok_check_facts (x : Fx P w K mg base) : FnB P w K mg base (WK K) 3 (He.fAd K ("check_facts", none)) m_check_facts 2 [] fun ds _ => ds := by
  obtain ⟨fd, G, F, B⟩ := okG_check_facts x
  exact fnB_all G F B rfl
theorem sc_check_board : FnScope ["value"] ["value"] (defScope s_check_board) := ⟨rfl, rfl, rfl, by decide +kernel, rfl, by decide +kernel, by decide +kernel⟩
def m_check_board : List D → M D
  | [d0] => runS (S := Unit) (mIf (mNot (b1 asB ((pure d0) >>= isiD tb_Board))) ((pure d0) >>= fun d => raise ⟨"NotABoard", some ("given", d)⟩) (pure (.nx ())))
  | _ => stuck
theorem okG_check_board (x : Fx P w K mg base) : ∃ fd, FnG P w K mg base 3 (He.fAd K ("check_board", none)) fd ["value"] (spD (WK K) 1 m_check_board) ∧ FunD K "check_board" "check_board" (defArgs s_check_board) (defBody s_check_board) (defScope s_check_board) [] [] (He.fAd K ("check_board", none)) fd ∧ Binds K fd ["value"] [] := by
  obtain ⟨fd, F, B⟩ := x.d_check_board
  refine ⟨fd, fn_body (n := 1) F sc_check_board rfl fun cdv A fr s H E ds hl b tk hp => ?_, F, B⟩
  match ds, hl with
  | [d0], _ => exact ⟨_, ds_last (d1_if (pt_not (pt_val (pd_isiC x.hK x.g_isinstance x.gc_Board x.tb_Board (pd_var (d := d0) 0)))) (ds_last (d1_raise (c0 := "NotABoard") (fld := "given") x.ex_NotABoard (b.mono (by decide)) rfl tk x.gc_NotABoard (pd_var (d := d0) 0))) (ds_nil (s := ()) (.u .n))), rfl⟩
theorem ok_check_board (x : Fx P w K mg base) : FnB P w K mg base (WK K) 3 (He.fAd K ("check_board", none)) m_check_board 1 [] fun ds _ => ds := by
  obtain ⟨fd, G, F, B⟩ := okG_check_board x
  exact fnB_all G F B rfl
theorem sc_Notes_init : FnScope ["self", "board", "facts"] ["self", "board", "facts"] (defScope s_Notes_init) := ⟨rfl, rfl, rfl, by decide +kernel, rfl, by decide +kernel, by decide +kernel⟩
def m_Notes_init : List D → M D
  | [d1, d2] => ((aCons (pure d1) aNil) D (cB 1 m_check_board fun ds _ => ds)) >>= fun _ => ((aCons (pure d1) (aCons (pure d2) aNil)) D (cB 2 m_check_facts fun ds _ => ds)) >>= fun _ => (aCons (pure d1) (aCons (pure d2) aNil)) D dTup
  | _ => stuck
theorem ok_Notes_init (x : Fx P w K mg base) : FnI P w K mg base (WK K) 4 (He.fAd K ("Notes", some "__init__")) (He.ga K "Notes") m_Notes_init 2 fun ds _ => ds := by
  obtain ⟨fd, F, B⟩ := x.d_Notes_init
  refine fnI_all (fd := fd) (ps := ["self", "board", "facts"]) (fn_init F sc_Notes_init rfl fun cdv A fr s H E ds hl b tk => ?_) B rfl
  match ds, hl with
  | [d1, d2], _ => exact di_expr (pd_call ((ok_check_board x).mono (by decide)) b tk x.f_check_board (da_cons (pd_var (d := d1) 1) da_nil)) (di_expr (pd_call ((ok_check_facts x).mono (by decide)) b tk x.f_check_facts (da_cons (pd_var (d := d1) 1) (da_cons (pd_var (d := d2) 2) da_nil))) (di_last (x := "self") rfl x.cl_Notes x.na_Notes_both (pd_tup (da_cons (pd_var (d := d1) 1) (da_cons (pd_var (d := d2) 2) da_nil)))))
theorem sc_notes_told : FnScope ["text", "lines", "words", "board", "line", "each"] ["text"] (defScope s_notes_told) := ⟨rfl, rfl, rfl, by decide +kernel, rfl, by decide +kernel, by decide +kernel⟩
def m_notes_told : List D → M D
  | [d0] => runS (S := Unit) ((mIf (b1 asB ((pure d0) >>= isiD (tblT "str" []))) (mLst ((pure d0) >>= kSplit (pure (D.str ("\n" : Str))))) ((aCons (pure (D.str ("" : Str))) aNil) D dLst)) >>= fun v1 => ((b1 items (pure v1)) >>= fun ds => lcD (fun d => on1 (lcB (fun c2 => pure true) (fun c2 => mLst ((pure c2) >>= kSplit (pure (D.str (" " : Str)))))) d) ds []) >>= fun v3 => seqF (T := Unit) (mIf (mOr (b1 asB (b2 dNe (aCons (b2 dIxA (pure (D.lst v3)) (pure (D.int 0))) aNil D dLen) (pure (D.int 2)))) (b1 asB (b2 dNe (b2 dIxA (b2 dIxA (pure (D.lst v3)) (pure (D.int 0))) (pure (D.int 0))) (pure (D.str ("board" : Str)))))) (mRet (pure D.non)) (pure (.nx ()))) fun _ => ((aCons (b2 dIxA (b2 dIxA (pure (D.lst v3)) (pure (D.int 0))) (pure (D.int 1))) aNil) D (cB 1 m_board_told fun ds _ => ds)) >>= fun v4 => seqF (T := Unit) (mIf (mOr (b1 asB (b1 dIsN (pure v4))) (mNot (b1 asB (aCons (mLst ((b1 items (mSl (pure (D.lst v3)) (b1 asI (pure (D.int 1))) (pure none))) >>= fun ds => lcD (fun d => on1 (lcB (fun c5 => pure true) (fun c5 => vAnd (b2 dEq (aCons (pure c5) aNil D dLen) (pure (D.int 3))) (b2 dEq (b2 dIxA (pure c5) (pure (D.int 1))) (pure (D.str ("<" : Str)))))) d) ds [])) aNil D fAll)))) (mRet (pure D.non)) (pure (.nx ()))) fun _ => tryM "InvalidFacts" [] (mRet ((aCons (pure v4) (aCons (aCons (mLst ((b1 items (mSl (pure (D.lst v3)) (b1 asI (pure (D.int 1))) (pure none))) >>= fun ds => lcD (fun d => on1 (lcB (fun c6 => pure true) (fun c6 => (aCons (b2 dIxA (pure c6) (pure (D.int 0))) (aCons (b2 dIxA (pure c6) (pure (D.int 2))) aNil)) D dTup)) d) ds [])) aNil D cTuple) aNil)) D (cI "Notes" 2 m_Notes_init fun ds _ => ds))) (mRet (pure D.non)))
  | _ => stuck
theorem okG_notes_told (x : Fx P w K mg base) : ∃ fd, FnG P w K mg base 7 (He.fAd K ("notes_told", none)) fd ["text"] (spD (WK K) 1 m_notes_told) ∧ FunD K "notes_told" "notes_told" (defArgs s_notes_told) (defBody s_notes_told) (defScope s_notes_told) [] [] (He.fAd K ("notes_told", none)) fd ∧ Binds K fd ["text"] [] := by
  obtain ⟨fd, F, B⟩ := x.d_notes_told
  refine ⟨fd, fn_body (n := 1) F sc_notes_told rfl fun cdv A fr s H E ds hl b tk hp => ?_, F, B⟩
  match ds, hl with
  | [d0], _ => exact ⟨_, ds_set 1 sc_notes_told.nd (dx_e (pd_ife (pt_val (pd_isiT x.hK x.g_isinstance x.g_str (by decide +kernel) (tbl_T (by decide)) (pd_var (d := d0) 0))) (pd_new (pn_split (pd_var (d := d0) 0) pd_str)) (pd_lst (da_cons pd_str da_nil)))) (fun v1 => ds_setLc 2 x.hK rfl sc_notes_told.nd (dj_of (di_of x.hK (pd_var (d := v1) 1))) (own := [("line", 4)]) (blk_of (by rfl)) (fun s H C cl fp => tg1 4 sc_notes_told.nd) (fun s H C cl fp c2 => ts_nil) (fun s H C cl fp c2 => pd_new (pn_split (pd_var (d := c2) 4) pd_str)) (fun v3 => ds_froz (xs := v3) 2 rfl (ds_seq (mkT := fun (_ : Unit) => [.d d0, .d v1, .d (D.lst v3), .un, .un, .un]) (d1_if (pt_w (pw_or (pt_ne x.hK b (pd_len x.hK x.g_len (pd_ixA x.hK (pd_var (d := D.lst v3) 2) pd_int)) pd_int) (pw_or1 (pt_ne x.hK b (pd_ixA x.hK (pd_ixA x.hK (pd_var (d := D.lst v3) 2) pd_int) pd_int) (pd_gstrE x.c_HEAD))))) (ds_last (d1_ret pd_non)) (ds_nil (s := ()) (.s (.s (.s (.u (.u (.u .n)))))))) (fun _ => ds_set 3 sc_notes_told.nd (dx_e (pd_call ((ok_board_told x).mono (by decide)) b tk x.f_board_told (da_cons (pd_ixA x.hK (pd_ixA x.hK (pd_var (d := D.lst v3) 2) pd_int) pd_int) da_nil))) (fun v4 => ds_seq (mkT := fun (_ : Unit) => [.d d0, .d v1, .d (D.lst v3), .d v4, .un, .un]) (d1_if (pt_w (pw_or (pt_isN (pd_var (d := v4) 3)) (pw_or1 (pt_not (pt_val (pd_all (pd_new (pn_lc x.hK rfl sc_notes_told.nd (dj_of (di_of x.hK (pd_sl x.hK (pd_var (d := D.lst v3) 2) (do_some pd_int) do_none))) (own := [("each", 5)]) (blk_of (by rfl)) (fun s H C cl fp => tg1 5 sc_notes_told.nd) (fun s H C cl fp c5 => ts_nil) (fun s H C cl fp c5 => pd_and (pd_eq x.hK ⟨b.rm, b.gd⟩ (pd_len x.hK x.g_len (pd_var (d := c5) 5)) pd_int) (pd_one (pd_eq x.hK ⟨b.rm, b.gd⟩ (pd_ixA x.hK (pd_var (d := c5) 5) pd_int) (pd_gstrE x.c_SIGN)))))) rfl x.g_all)))))) (ds_last (d1_ret pd_non)) (ds_nil (s := ()) (.s (.s (.s (.s (.u (.u .n)))))))) (fun _ => ds_last (d1_try (c0 := "InvalidFacts") (oth := []) rfl rfl tk x.gc_InvalidFacts x.exm_InvalidFacts_InvalidFacts (fun c h => nomatch h) (fun Wy pn xe t pp => ds_last (d1_ret (pd_make (c0 := "Notes") x.mk_Notes ((ok_Notes_init x).mono (by decide)) ⟨b.rm, b.gd⟩ t x.gc_Notes (da_cons (pd_var (d := v4) 3) (da_cons (pd_tuple x.hK x.g_tuple (pd_new (pn_lc x.hK rfl sc_notes_told.nd (dj_of (di_of x.hK (pd_sl x.hK (pd_var (d := D.lst v3) 2) (do_some pd_int) do_none))) (own := [("each", 5)]) (blk_of (by rfl)) (fun s H C cl fp => tg1 5 sc_notes_told.nd) (fun s H C cl fp c6 => ts_nil) (fun s H C cl fp c6 => pd_tup (da_cons (pd_ixA x.hK (pd_var (d := c6) 5) pd_int) (da_cons (pd_ixA x.hK (pd_var (d := c6) 5) pd_int) da_nil)))))) da_nil))))) (fun a pn => ds_last (d1_ret pd_non)))))))) (sw_true rfl rfl rfl (by decide +kernel))), rfl⟩
theorem ok_notes_told (x : Fx P w K mg base) : FnB P w K mg base (WK K) 7 (He.fAd K ("notes_told", none)) m_notes_told 1 [] fun ds _ => ds := by
  obtain ⟨fd, G, F, B⟩ := okG_notes_told x
  exact fnB_all G F B rfl
theorem sc_read_notes : FnScope ["text"] ["text"] (defScope s_read_notes) := ⟨rfl, rfl, rfl, by decide +kernel, rfl, by decide +kernel, by decide +kernel⟩
def m_read_notes : List D → M D
  | [d0] => runS (S := Unit) (mRet ((aCons (pure d0) aNil) D (cB 1 m_notes_told fun ds _ => ds)))
  | _ => stuck
theorem okG_read_notes (x : Fx P w K mg base) : ∃ fd, FnG P w K mg base 8 (He.fAd K ("read_notes", none)) fd ["text"] (spD (WK K) 1 m_read_notes) ∧ FunD K "read_notes" "read_notes" (defArgs s_read_notes) (defBody s_read_notes) (defScope s_read_notes) [] [] (He.fAd K ("read_notes", none)) fd ∧ Binds K fd ["text"] [] := by
  obtain ⟨fd, F, B⟩ := x.d_read_notes
  refine ⟨fd, fn_body (n := 1) F sc_read_notes rfl fun cdv A fr s H E ds hl b tk hp => ?_, F, B⟩
  match ds, hl with
  | [d0], _ => exact ⟨_, ds_last (d1_ret (pd_call ((ok_notes_told x).mono (by decide)) b tk x.f_notes_told (da_cons (pd_var (d := d0) 0) da_nil))), rfl⟩
theorem ok_read_notes (x : Fx P w K mg base) : FnB P w K mg base (WK K) 8 (He.fAd K ("read_notes", none)) m_read_notes 1 [] fun ds _ => ds := by
  obtain ⟨fd, G, F, B⟩ := okG_read_notes x
  exact fnB_all G F B rfl
theorem sc_is_empty : FnScope ["certificate"] ["certificate"] (defScope s_is_empty) := ⟨rfl, rfl, rfl, by decide +kernel, rfl, by decide +kernel, by decide +kernel⟩
def m_is_empty : List D → M D
  | [d0] => runS (S := Unit) (mRet (vAnd ((pure d0) >>= isiD (tblT "tuple" [])) (b2 dEq (pure d0) (aNil D dTup))))
  | _ => stuck
theorem okG_is_empty (x : Fx P w K mg base) : ∃ fd, FnG P w K mg base 1 (He.fAd K ("is_empty", none)) fd ["certificate"] (spD (WK K) 1 m_is_empty) ∧ FunD K "is_empty" "is_empty" (defArgs s_is_empty) (defBody s_is_empty) (defScope s_is_empty) [] [] (He.fAd K ("is_empty", none)) fd ∧ Binds K fd ["certificate"] [] := by
  obtain ⟨fd, F, B⟩ := x.d_is_empty
  refine ⟨fd, fn_body (n := 1) F sc_is_empty rfl fun cdv A fr s H E ds hl b tk hp => ?_, F, B⟩
  match ds, hl with
  | [d0], _ => exact ⟨_, ds_last (d1_ret (pd_and (pd_isiT x.hK x.g_isinstance x.g_tuple (by decide +kernel) (tbl_T (by decide)) (pd_var (d := d0) 0)) (pd_one (pd_eq x.hK b (pd_var (d := d0) 0) (pd_tup da_nil))))), rfl⟩
theorem ok_is_empty (x : Fx P w K mg base) : FnB P w K mg base (WK K) 1 (He.fAd K ("is_empty", none)) m_is_empty 1 [] fun ds _ => ds := by
  obtain ⟨fd, G, F, B⟩ := okG_is_empty x
  exact fnB_all G F B rfl
theorem sc_Notes_board : FnScope ["self"] ["self"] (defScope s_Notes_board) := ⟨rfl, rfl, rfl, by decide +kernel, rfl, by decide +kernel, by decide +kernel⟩
def m_Notes_board : List D → M D
  | [d0] => runS (S := Unit) (mRet (b2 dIxA ((pure d0) >>= isO "Notes" oBoth) (pure (D.int 0))))
  | _ => stuck
theorem okG_Notes_board (x : Fx P w K mg base) : ∃ fd, FnG P w K mg base 1 (pgA K "Notes" "board") fd ["self"] (spD (WK K) 1 m_Notes_board) ∧ FunD K "board" "Notes.board" (defArgs s_Notes_board) (defBody s_Notes_board) (defScope s_Notes_board) [] [] (pgA K "Notes" "board") fd ∧ Binds K fd ["self"] [] := by
  obtain ⟨fd, F, B⟩ := x.d_Notes_board
  refine ⟨fd, fn_body (n := 1) F sc_Notes_board rfl fun cdv A fr s H E ds hl b tk hp => ?_, F, B⟩
  match ds, hl with
  | [d0], _ => exact ⟨_, ds_last (d1_ret (pd_ixA x.hK (pd_both (c0 := "Notes") x.cl_Notes x.na_Notes_both (pd_var (d := d0) 0)) pd_int)), rfl⟩
theorem ok_Notes_board (x : Fx P w K mg base) : FnB P w K mg base (WK K) 1 (pgA K "Notes" "board") m_Notes_board 1 [] fun ds _ => ds := by
  obtain ⟨fd, G, F, B⟩ := okG_Notes_board x
  exact fnB_all G F B rfl
theorem sc_Board_whole : FnScope ["self", "size"] ["self"] (defScope s_Board_whole) := ⟨rfl, rfl, rfl, by decide +kernel, rfl, by decide +kernel, by decide +kernel⟩
def m_Board_whole : List D → M D
  | [d0] => runS (S := Unit) (mRet (aCons (mLst ((b1 items (b2 dIxA ((pure d0) >>= isO "Board" oBoth) (pure (D.int 0)))) >>= fun ds => lcD (fun d => on1 (lcB (fun c1 => pure true) (fun c1 => (pure c1) >>= mdIxI kv_STANDS)) d) ds [])) aNil D cTuple))
  | _ => stuck
theorem okG_Board_whole (x : Fx P w K mg base) : ∃ fd, FnG P w K mg base 1 (pgA K "Board" "whole") fd ["self"] (spD (WK K) 1 m_Board_whole) ∧ FunD K "whole" "Board.whole" (defArgs s_Board_whole) (defBody s_Board_whole) (defScope s_Board_whole) [] [] (pgA K "Board" "whole") fd ∧ Binds K fd ["self"] [] := by
  obtain ⟨fd, F, B⟩ := x.d_Board_whole
  refine ⟨fd, fn_body (n := 1) F sc_Board_whole rfl fun cdv A fr s H E ds hl b tk hp => ?_, F, B⟩
  match ds, hl with
  | [d0], _ => exact ⟨_, ds_last (d1_ret (pd_tuple x.hK x.g_tuple (pd_new (pn_lc x.hK rfl sc_Board_whole.nd (dj_of (di_of x.hK (pd_ixA x.hK (pd_both (c0 := "Board") x.cl_Board x.na_Board_both (pd_var (d := d0) 0)) pd_int))) (own := [("size", 1)]) (blk_of (by rfl)) (fun s H C cl fp => tg1 1 sc_Board_whole.nd) (fun s H C cl fp c1 => ts_nil) (fun s H C cl fp c1 => pd_ixMdI x.t_STANDS x.tg_STANDS (pd_var (d := c1) 1)))))), rfl⟩
theorem ok_Board_whole (x : Fx P w K mg base) : FnB P w K mg base (WK K) 1 (pgA K "Board" "whole") m_Board_whole 1 [] fun ds _ => ds := by
  obtain ⟨fd, G, F, B⟩ := okG_Board_whole x
  exact fnB_all G F B rfl
theorem sc_Board_settings : FnScope ["self"] ["self"] (defScope s_Board_settings) := ⟨rfl, rfl, rfl, by decide +kernel, rfl, by decide +kernel, by decide +kernel⟩
def m_Board_settings : List D → M D
  | [d0] => runS (S := Unit) (mRet (b2 dIxA ((pure d0) >>= isO "Board" oBoth) (pure (D.int 1))))
  | _ => stuck
theorem okG_Board_settings (x : Fx P w K mg base) : ∃ fd, FnG P w K mg base 1 (pgA K "Board" "settings") fd ["self"] (spD (WK K) 1 m_Board_settings) ∧ FunD K "settings" "Board.settings" (defArgs s_Board_settings) (defBody s_Board_settings) (defScope s_Board_settings) [] [] (pgA K "Board" "settings") fd ∧ Binds K fd ["self"] [] := by
  obtain ⟨fd, F, B⟩ := x.d_Board_settings
  refine ⟨fd, fn_body (n := 1) F sc_Board_settings rfl fun cdv A fr s H E ds hl b tk hp => ?_, F, B⟩
  match ds, hl with
  | [d0], _ => exact ⟨_, ds_last (d1_ret (pd_ixA x.hK (pd_both (c0 := "Board") x.cl_Board x.na_Board_both (pd_var (d := d0) 0)) pd_int)), rfl⟩
theorem ok_Board_settings (x : Fx P w K mg base) : FnB P w K mg base (WK K) 1 (pgA K "Board" "settings") m_Board_settings 1 [] fun ds _ => ds := by
  obtain ⟨fd, G, F, B⟩ := okG_Board_settings x
  exact fnB_all G F B rfl
theorem sc_reached_from : FnScope ["facts", "start", "found", "waiting", "place", "later", "worse", "better"] ["facts", "start"] (defScope s_reached_from) := ⟨rfl, rfl, rfl, by decide +kernel, rfl, by decide +kernel, by decide +kernel⟩
def m_reached_from : List D → M D
  | [d0, d1] => runS (S := Unit) (mTwo ((aCons (pure d1) aNil) D dLst) ((aCons (pure d1) aNil) (List D) nLst) fun v1 v2 => seqF (T := List D × D) (whileD (S := List D × D) (fun s3 => b1 asB (b2 qNe (pure (false, s3.1)) (aNil D dLst))) (fun s3 => mPop s3.1 fun v4 => ((b1 items (pure d0)) >>= fun ds => lcD (fun d => on2 (lcB (fun c5 => mAnd (b1 asB (b2 dEq (pure c5.1) (pure v4))) (b1 asB (b2 dNotIn (pure c5.2) (pure s3.2)))) (fun c5 => pure c5.2)) d) ds []) >>= fun v6 => mTwo (b2 dAdd (pure s3.2) (pure (D.lst v6))) (mAddO s3.1.dropLast (pure (D.lst v6))) fun v7 v8 => pure (.nx (v8, v7))) 200 (v2, v1)) fun s3 => mRet (pure s3.2))
  | _ => stuck
theorem okG_reached_from (x : Fx P w K mg base) : ∃ fd, FnG P w K mg base 1 (He.fAd K ("reached_from", none)) fd ["facts", "start"] (spD (WK K) 2 m_reached_from) ∧ FunD K "reached_from" "reached_from" (defArgs s_reached_from) (defBody s_reached_from) (defScope s_reached_from) [] [] (He.fAd K ("reached_from", none)) fd ∧ Binds K fd ["facts", "start"] [] := by
  obtain ⟨fd, F, B⟩ := x.d_reached_from
  refine ⟨fd, fn_body (n := 2) F sc_reached_from rfl fun cdv A fr s H E ds hl b tk hp => ?_, F, B⟩
  match ds, hl with
  | [d0, d1], _ => exact ⟨_, ds_parC 2 3 rfl sc_reached_from.nd (dx_e (pd_lst (da_cons (pd_var (d := d1) 1) da_nil))) (dx_n (pn_lst (da_cons (pd_var (d := d1) 1) da_nil))) (fun v1 v2 => ds_seq (mkT := fun (s3 : List D × D) => [.d d0, .d d1, .d s3.2, .ol s3.1, .un, .un, .un, .un]) (d1_while (S := List D × D) (mk := fun (s3 : List D × D) => [.d d0, .d d1, .d s3.2, .ol s3.1, .un, .un, .un, .un]) (s0 := (v2, v1)) 200 hp (.s (.s (.s (.s (.u (.u (.u (.u .n)))))))) (fun s3 => pt_neq x.hK b (pq_var (xs := s3.1) 3) (pd_lst da_nil)) (fun s3 => ds_setPop (xs := s3.1) 3 4 (by decide) rfl sc_reached_from.nd (fun v4 => ds_setLc 5 x.hK rfl sc_reached_from.nd (dj_of (di_of x.hK (pd_var (d := d0) 0))) (own := [("worse", 6), ("better", 7)]) (blk_of (by rfl)) (fun s H C cl fp => tg2K K rfl 6 7 rfl rfl sc_reached_from.nd) (fun s H C cl fp c5 => ts_one (pt_w (pw_and (pt_eq x.hK ⟨b.rm, b.gd⟩ (pd_var (d := c5.1) 6) (pd_var (d := v4) 4)) (pw_and1 (pt_notIn x.hK ⟨b.rm, b.gd⟩ (pd_var (d := c5.2) 7) (pd_var (d := s3.2) 2)))))) (fun s H C cl fp c5 => pd_var (d := c5.2) 7) (fun v6 => ds_froz (xs := v6) 5 rfl (ds_parC 2 3 rfl sc_reached_from.nd (dx_e (pd_add x.hK (pd_var (d := s3.2) 2) (pd_var (d := D.lst v6) 5))) (dx_n (pn_addO (xs := s3.1.dropLast) 3 rfl (pv 3) (pd_var (d := D.lst v6) 5))) (fun v7 v8 => ds_nil (s := (v8, v7)) (.s (.s (.s (.s (.u (.u (.u (.u .n))))))))))) (sw_true rfl rfl rfl (by decide +kernel))) (fun {r} h => pe_bm0 PySem.F.plainAttrs_list PySem.F.slot_list_pop PySem.F.type_list_pop h (pv 3)))) (fun s3 => ds_last (d1_ret (pd_var (d := s3.2) 2)))), rfl⟩
theorem ok_reached_from (x : Fx P w K mg base) : FnB P w K mg base (WK K) 1 (He.fAd K ("reached_from", none)) m_reached_from 2 [] fun ds _ => ds := by
  obtain ⟨fd, G, F, B⟩ := okG_reached_from x
  exact fnB_all G F B rfl
theorem sc_Notes_facts : FnScope ["self"] ["self"] (defScope s_Notes_facts) := ⟨rfl, rfl, rfl, by decide +kernel, rfl, by decide +kernel, by decide +kernel⟩
def m_Notes_facts : List D → M D
  | [d0] => runS (S := Unit) (mRet (b2 dIxA ((pure d0) >>= isO "Notes" oBoth) (pure (D.int 1))))
  | _ => stuck
theorem okG_Notes_facts (x : Fx P w K mg base) : ∃ fd, FnG P w K mg base 1 (pgA K "Notes" "facts") fd ["self"] (spD (WK K) 1 m_Notes_facts) ∧ FunD K "facts" "Notes.facts" (defArgs s_Notes_facts) (defBody s_Notes_facts) (defScope s_Notes_facts) [] [] (pgA K "Notes" "facts") fd ∧ Binds K fd ["self"] [] := by
  obtain ⟨fd, F, B⟩ := x.d_Notes_facts
  refine ⟨fd, fn_body (n := 1) F sc_Notes_facts rfl fun cdv A fr s H E ds hl b tk hp => ?_, F, B⟩
  match ds, hl with
  | [d0], _ => exact ⟨_, ds_last (d1_ret (pd_ixA x.hK (pd_both (c0 := "Notes") x.cl_Notes x.na_Notes_both (pd_var (d := d0) 0)) pd_int)), rfl⟩
theorem ok_Notes_facts (x : Fx P w K mg base) : FnB P w K mg base (WK K) 1 (pgA K "Notes" "facts") m_Notes_facts 1 [] fun ds _ => ds := by
  obtain ⟨fd, G, F, B⟩ := okG_Notes_facts x
  exact fnB_all G F B rfl
theorem sc_leads_to_some : FnScope ["notes", "start", "goals", "found", "goal"] ["notes", "start", "goals"] (defScope s_leads_to_some) := ⟨rfl, rfl, rfl, by decide +kernel, rfl, by decide +kernel, by decide +kernel⟩
def m_leads_to_some : List D → M D
  | [d0, d1, d2] => runS (S := Unit) (((aCons ((pure d0) >>= isO "Notes" fun d => calm (m_Notes_facts [d])) (aCons (pure d1) aNil)) D (cB 2 m_reached_from fun ds _ => ds)) >>= fun v1 => mRet (aCons (mLst ((b1 items (pure d2)) >>= fun ds => lcD (fun d => on1 (lcB (fun c2 => pure true) (fun c2 => b2 dIn (pure c2) (pure v1))) d) ds [])) aNil D fAny))
  | _ => stuck
theorem okG_leads_to_some (x : Fx P w K mg base) : ∃ fd, FnG P w K mg base 3 (He.fAd K ("leads_to_some", none)) fd ["notes", "start", "goals"] (spD (WK K) 3 m_leads_to_some) ∧ FunD K "leads_to_some" "leads_to_some" (defArgs s_leads_to_some) (defBody s_leads_to_some) (defScope s_leads_to_some) [] [] (He.fAd K ("leads_to_some", none)) fd ∧ Binds K fd ["notes", "start", "goals"] [] := by
  obtain ⟨fd, F, B⟩ := x.d_leads_to_some
  refine ⟨fd, fn_body (n := 3) F sc_leads_to_some rfl fun cdv A fr s H E ds hl b tk hp => ?_, F, B⟩
  match ds, hl with
  | [d0, d1, d2], _ => exact ⟨_, ds_set 3 sc_leads_to_some.nd (dx_e (pd_call ((ok_reached_from x).mono (by decide)) b tk x.f_reached_from (da_cons (pd_prop (c0 := "Notes") ((ok_Notes_facts x).mono (by decide)) b x.cl_Notes x.pr_Notes_facts (pd_var (d := d0) 0)) (da_cons (pd_var (d := d1) 1) da_nil)))) (fun v1 => ds_last (d1_ret (pd_any (pd_new (pn_lc x.hK rfl sc_leads_to_some.nd (dj_of (di_of x.hK (pd_var (d := d2) 2))) (own := [("goal", 4)]) (blk_of (by rfl)) (fun s H C cl fp => tg1 4 sc_leads_to_some.nd) (fun s H C cl fp c2 => ts_nil) (fun s H C cl fp c2 => pd_in x.hK ⟨b.rm, b.gd⟩ (pd_var (d := c2) 4) (pd_var (d := v1) 3)))) rfl x.g_any))), rfl⟩
theorem ok_leads_to_some (x : Fx P w K mg base) : FnB P w K mg base (WK K) 3 (He.fAd K ("leads_to_some", none)) m_leads_to_some 3 [] fun ds _ => ds := by
  obtain ⟨fd, G, F, B⟩ := okG_leads_to_some x
  exact fnB_all G F B rfl
theorem sc_turned_to : FnScope ["setting", "switch", "stand"] ["setting", "switch", "stand"] (defScope s_turned_to) := ⟨rfl, rfl, rfl, by decide +kernel, rfl, by decide +kernel, by decide +kernel⟩
def m_turned_to : List D → M D
  | [d0, d1, d2] => runS (S := Unit) (mRet (b2 dAdd (b2 dAdd (mSl (pure d0) (pure none) (b1 asI (pure d1))) (pure d2)) (mSl (pure d0) (b1 asI (b2 dAdd (pure d1) (pure (D.int 1)))) (pure none))))
  | _ => stuck
theorem okG_turned_to (x : Fx P w K mg base) : ∃ fd, FnG P w K mg base 1 (He.fAd K ("turned_to", none)) fd ["setting", "switch", "stand"] (spD (WK K) 3 m_turned_to) ∧ FunD K "turned_to" "turned_to" (defArgs s_turned_to) (defBody s_turned_to) (defScope s_turned_to) [] [] (He.fAd K ("turned_to", none)) fd ∧ Binds K fd ["setting", "switch", "stand"] [] := by
  obtain ⟨fd, F, B⟩ := x.d_turned_to
  refine ⟨fd, fn_body (n := 3) F sc_turned_to rfl fun cdv A fr s H E ds hl b tk hp => ?_, F, B⟩
  match ds, hl with
  | [d0, d1, d2], _ => exact ⟨_, ds_last (d1_ret (pd_add x.hK (pd_add x.hK (pd_sl x.hK (pd_var (d := d0) 0) do_none (do_some (pd_var (d := d1) 1))) (pd_var (d := d2) 2)) (pd_sl x.hK (pd_var (d := d0) 0) (do_some (pd_add x.hK (pd_var (d := d1) 1) pd_int)) do_none))), rfl⟩
theorem ok_turned_to (x : Fx P w K mg base) : FnB P w K mg base (WK K) 1 (He.fAd K ("turned_to", none)) m_turned_to 3 [] fun ds _ => ds := by
  obtain ⟨fd, G, F, B⟩ := okG_turned_to x
  exact fnB_all G F B rfl
theorem sc_beside_part : FnScope ["part", "setting", "found", "switch", "stand"] ["part", "setting"] (defScope s_beside_part) := ⟨rfl, rfl, rfl, by decide +kernel, rfl, by decide +kernel, by decide +kernel⟩
def m_beside_part : List D → M D
  | [d0, d1] => runS (S := Unit) ((aNil D dLst) >>= fun v1 => seqF (T := D) (((aCons (aCons (pure d0) aNil D dLen) aNil) (List D) fRange1) >>= fun ds => forD (S := D) (fun s2 d => on1 (fun c3 => (b2 dAdd (pure s2) (mLst ((b1 items (b2 dIxA (pure d0) (pure c3))) >>= fun ds => lcD (fun d => on1 (lcB (fun c5 => b1 asB (b2 dNe (pure c5) (b2 dIxA (pure d1) (pure c3)))) (fun c5 => (aCons (pure d1) (aCons (pure c3) (aCons (pure c5) aNil))) D (cB 3 m_turned_to fun ds _ => ds))) d) ds []))) >>= fun v4 => pure (.nx v4)) d) ds v1) fun s2 => mRet (mLst (b1 qSort (b1 asQ (pure s2)))))
  | _ => stuck
theorem okG_beside_part (x : Fx P w K mg base) : ∃ fd, FnG P w K mg base 2 (He.fAd K ("beside_part", none)) fd ["part", "setting"] (spD (WK K) 2 m_beside_part) ∧ FunD K "beside_part" "beside_part" (defArgs s_beside_part) (defBody s_beside_part) (defScope s_beside_part) [] [] (He.fAd K ("beside_part", none)) fd ∧ Binds K fd ["part", "setting"] [] := by
  obtain ⟨fd, F, B⟩ := x.d_beside_part
  refine ⟨fd, fn_body (n := 2) F sc_beside_part rfl fun cdv A fr s H E ds hl b tk hp => ?_, F, B⟩
  match ds, hl with
  | [d0, d1], _ => exact ⟨_, ds_set 2 sc_beside_part.nd (dx_e (pd_lst da_nil)) (fun v1 => ds_seq (mkT := fun (s2 : D) => [.d d0, .d d1, .d s2, .un, .un]) (d1_for (S := D) (mk := fun (s2 : D) => [.d d0, .d d1, .d s2, .un, .un]) (s0 := v1) x.hK hp rfl (di_range1 x.g_range (da_cons (pd_len x.hK x.g_len (pd_var (d := d0) 0)) da_nil)) (tg1 3 sc_beside_part.nd) (.s (.s (.s (.u (.u .n))))) (fun s2 c3 => ds_set 2 sc_beside_part.nd (dx_e (pd_add x.hK (pd_var (d := s2) 2) (pd_new (pn_lc x.hK rfl sc_beside_part.nd (dj_of (di_of x.hK (pd_ixA x.hK (pd_var (d := d0) 0) (pd_var (d := c3) 3)))) (own := [("stand", 4)]) (blk_of (by rfl)) (fun s H C cl fp => tg1 4 sc_beside_part.nd) (fun s H C cl fp c5 => ts_one (pt_ne x.hK ⟨b.rm, b.gd⟩ (pd_var (d := c5) 4) (pd_ixA x.hK (pd_var (d := d1) 1) (pd_var (d := c3) 3)))) (fun s H C cl fp c5 => pd_call ((ok_turned_to x).mono (by decide)) ⟨b.rm, b.gd⟩ takes0 x.f_turned_to (da_cons (pd_var (d := d1) 1) (da_cons (pd_var (d := c3) 3) (da_cons (pd_var (d := c5) 4) da_nil)))))))) (fun v4 => ds_nil (s := v4) (.s (.s (.s (.u (.u .n))))))) (fun k l d => on1_bind k l d)) (fun s2 => ds_last (d1_ret (pd_new (pn_sorted x.hK b x.g_sorted (pq_of (pd_var (d := s2) 2))))))), rfl⟩
theorem ok_beside_part (x : Fx P w K mg base) : FnB P w K mg base (WK K) 2 (He.fAd K ("beside_part", none)) m_beside_part 2 [] fun ds _ => ds := by
  obtain ⟨fd, G, F, B⟩ := okG_beside_part x
  exact fnB_all G F B rfl
theorem sc_can_both : FnScope ["notes", "one", "other", "mine", "theirs"] ["notes", "one", "other"] (defScope s_can_both) := ⟨rfl, rfl, rfl, by decide +kernel, rfl, by decide +kernel, by decide +kernel⟩
def m_can_both : List D → M D
  | [d0, d1, d2] => runS (S := Unit) (seqF (T := Unit) (mIf (mOr (b1 asB (b2 dEq (pure d1) (pure d2))) (b1 asB ((aCons (pure d1) (aCons (pure d2) aNil)) D (cB 2 m_are_neighbours fun ds _ => ds)))) (mRet (pure (D.bl false))) (pure (.nx ()))) fun _ => mTwo ((aCons (((pure d0) >>= isO "Notes" fun d => calm (m_Notes_board [d])) >>= isO "Board" fun d => calm (m_Board_whole [d])) (aCons (pure d1) aNil)) D (cB 2 m_beside_part fun ds _ => ds)) ((aCons (((pure d0) >>= isO "Notes" fun d => calm (m_Notes_board [d])) >>= isO "Board" fun d => calm (m_Board_whole [d])) (aCons (pure d2) aNil)) D (cB 2 m_beside_part fun ds _ => ds)) fun v1 v2 => mRet (vOr (vNot ((aCons (pure d0) (aCons (pure d1) (aCons (pure v2) aNil))) D (cB 3 m_leads_to_some fun ds _ => ds))) (vNot ((aCons (pure d0) (aCons (pure d2) (aCons (pure v1) aNil))) D (cB 3 m_leads_to_some fun ds _ => ds)))))
  | _ => stuck
theorem okG_can_both (x : Fx P w K mg base) : ∃ fd, FnG P w K mg base 4 (He.fAd K ("can_both", none)) fd ["notes", "one", "other"] (spD (WK K) 3 m_can_both) ∧ FunD K "can_both" "can_both" (defArgs s_can_both) (defBody s_can_both) (defScope s_can_both) [] [] (He.fAd K ("can_both", none)) fd ∧ Binds K fd ["notes", "one", "other"] [] := by
  obtain ⟨fd, F, B⟩ := x.d_can_both
  refine ⟨fd, fn_body (n := 3) F sc_can_both rfl fun cdv A fr s H E ds hl b tk hp => ?_, F, B⟩
  match ds, hl with
  | [d0, d1, d2], _ => exact ⟨_, ds_seq (mkT := fun (_ : Unit) => [.d d0, .d d1, .d d2, .un, .un]) (d1_if (pt_w (pw_or (pt_eq x.hK b (pd_var (d := d1) 1) (pd_var (d := d2) 2)) (pw_or1 (pt_val (pd_call ((ok_are_neighbours x).mono (by decide)) b tk x.f_are_neighbours (da_cons (pd_var (d := d1) 1) (da_cons (pd_var (d := d2) 2) da_nil))))))) (ds_last (d1_ret pd_bl)) (ds_nil (s := ()) (.s (.s (.s (.u (.u .n))))))) (fun _ => ds_par 3 4 rfl sc_can_both.nd (dx_e (pd_call ((ok_beside_part x).mono (by decide)) b tk x.f_beside_part (da_cons (pd_prop (c0 := "Board") ((ok_Board_whole x).mono (by decide)) b x.cl_Board x.pr_Board_whole (pd_prop (c0 := "Notes") ((ok_Notes_board x).mono (by decide)) b x.cl_Notes x.pr_Notes_board (pd_var (d := d0) 0))) (da_cons (pd_var (d := d1) 1) da_nil)))) (dx_e (pd_call ((ok_beside_part x).mono (by decide)) b tk x.f_beside_part (da_cons (pd_prop (c0 := "Board") ((ok_Board_whole x).mono (by decide)) b x.cl_Board x.pr_Board_whole (pd_prop (c0 := "Notes") ((ok_Notes_board x).mono (by decide)) b x.cl_Notes x.pr_Notes_board (pd_var (d := d0) 0))) (da_cons (pd_var (d := d2) 2) da_nil)))) (fun v1 v2 => ds_last (d1_ret (pd_or (pd_not (pd_call ((ok_leads_to_some x).mono (by decide)) b tk x.f_leads_to_some (da_cons (pd_var (d := d0) 0) (da_cons (pd_var (d := d1) 1) (da_cons (pd_var (d := v2) 4) da_nil))))) (pd_one (pd_not (pd_call ((ok_leads_to_some x).mono (by decide)) b tk x.f_leads_to_some (da_cons (pd_var (d := d0) 0) (da_cons (pd_var (d := d2) 2) (da_cons (pd_var (d := v1) 3) da_nil)))))))))), rfl⟩
theorem ok_can_both (x : Fx P w K mg base) : FnB P w K mg base (WK K) 4 (He.fAd K ("can_both", none)) m_can_both 3 [] fun ds _ => ds := by
  obtain ⟨fd, G, F, B⟩ := okG_can_both x
  exact fnB_all G F B rfl
theorem sc_can_be_two : FnScope ["notes", "whole", "free", "each", "one", "other"] ["notes"] (defScope s_can_be_two) := ⟨rfl, rfl, rfl, by decide +kernel, rfl, by decide +kernel, by decide +kernel⟩
def m_can_be_two : List D → M D
  | [d0] => runS (S := Unit) ((((pure d0) >>= isO "Notes" fun d => calm (m_Notes_board [d])) >>= isO "Board" fun d => calm (m_Board_whole [d])) >>= fun v1 => (mLst ((b1 items (((pure d0) >>= isO "Notes" fun d => calm (m_Notes_board [d])) >>= isO "Board" fun d => calm (m_Board_settings [d]))) >>= fun ds => lcD (fun d => on1 (lcB (fun c3 => mNot (b1 asB ((aCons (pure d0) (aCons (pure c3) (aCons ((aCons (pure v1) (aCons (pure c3) aNil)) D (cB 2 m_beside_part fun ds _ => ds)) aNil))) D (cB 3 m_leads_to_some fun ds _ => ds)))) (fun c3 => pure c3)) d) ds [])) >>= fun v2 => mRet (aCons (mLst ((b1 items (pure v2)) >>= fun ds => lc2D on1 (fun c4 => pure true) (fun c4 => b1 items (pure v2)) (fun c4 d => on1 (lcB (fun c5 => pure true) (fun c5 => (aCons (pure d0) (aCons (pure c4) (aCons (pure c5) aNil))) D (cB 3 m_can_both fun ds _ => ds))) d) ds [])) aNil D fAny))
  | _ => stuck
theorem okG_can_be_two (x : Fx P w K mg base) : ∃ fd, FnG P w K mg base 5 (He.fAd K ("can_be_two", none)) fd ["notes"] (spD (WK K) 1 m_can_be_two) ∧ FunD K "can_be_two" "can_be_two" (defArgs s_can_be_two) (defBody s_can_be_two) (defScope s_can_be_two) [] [] (He.fAd K ("can_be_two", none)) fd ∧ Binds K fd ["notes"] [] := by
  obtain ⟨fd, F, B⟩ := x.d_can_be_two
  refine ⟨fd, fn_body (n := 1) F sc_can_be_two rfl fun cdv A fr s H E ds hl b tk hp => ?_, F, B⟩
  match ds, hl with
  | [d0], _ => exact ⟨_, ds_set 1 sc_can_be_two.nd (dx_e (pd_prop (c0 := "Board") ((ok_Board_whole x).mono (by decide)) b x.cl_Board x.pr_Board_whole (pd_prop (c0 := "Notes") ((ok_Notes_board x).mono (by decide)) b x.cl_Notes x.pr_Notes_board (pd_var (d := d0) 0)))) (fun v1 => ds_set 2 sc_can_be_two.nd (dx_e (pd_new (pn_lc x.hK rfl sc_can_be_two.nd (dj_of (di_of x.hK (pd_prop (c0 := "Board") ((ok_Board_settings x).mono (by decide)) b x.cl_Board x.pr_Board_settings (pd_prop (c0 := "Notes") ((ok_Notes_board x).mono (by decide)) b x.cl_Notes x.pr_Notes_board (pd_var (d := d0) 0))))) (own := [("each", 3)]) (blk_of (by rfl)) (fun s H C cl fp => tg1 3 sc_can_be_two.nd) (fun s H C cl fp c3 => ts_one (pt_not (pt_val (pd_call ((ok_leads_to_some x).mono (by decide)) ⟨b.rm, b.gd⟩ takes0 x.f_leads_to_some (da_cons (pd_var (d := d0) 0) (da_cons (pd_var (d := c3) 3) (da_cons (pd_call ((ok_beside_part x).mono (by decide)) ⟨b.rm, b.gd⟩ takes0 x.f_beside_part (da_cons (pd_var (d := v1) 1) (da_cons (pd_var (d := c3) 3) da_nil))) da_nil))))))) (fun s H C cl fp c3 => pd_var (d := c3) 3)))) (fun v2 => ds_last (d1_ret (pd_any (pd_new (pn_lc2 [5] x.hK rfl sc_can_be_two.nd (dj_of (di_of x.hK (pd_var (d := v2) 2))) (own := [("one", 4), ("other", 5)]) (blk_of (by rfl)) (fun s H C cl fp => tg1 4 sc_can_be_two.nd) (fun s H C cl fp c4 => ts_nil) (fun s H C cl fp c4 => di_of x.hK (pd_var (d := v2) 2)) (fun s H C cl fp => tg1 5 sc_can_be_two.nd) (fun s H C cl fp c4 c5 => ts_nil) (fun s H C cl fp c4 c5 => pd_call ((ok_can_both x).mono (by decide)) ⟨b.rm, b.gd⟩ takes0 x.f_can_both (da_cons (pd_var (d := d0) 0) (da_cons (pd_var (d := c4) 4) (da_cons (pd_var (d := c5) 5) da_nil)))))) rfl x.g_any)))), rfl⟩
theorem ok_can_be_two (x : Fx P w K mg base) : FnB P w K mg base (WK K) 5 (He.fAd K ("can_be_two", none)) m_can_be_two 1 [] fun ds _ => ds := by
  obtain ⟨fd, G, F, B⟩ := okG_can_be_two x
  exact fnB_all G F B rfl
theorem sc_Board_len : FnScope ["self"] ["self"] (defScope s_Board_len) := ⟨rfl, rfl, rfl, by decide +kernel, rfl, by decide +kernel, by decide +kernel⟩
def m_Board_len : List D → M D
  | [d0] => runS (S := Unit) (mRet (aCons (b2 dIxA ((pure d0) >>= isO "Board" oBoth) (pure (D.int 1))) aNil D dLen))
  | _ => stuck
theorem okG_Board_len (x : Fx P w K mg base) : ∃ fd, FnG P w K mg base 1 (He.fAd K ("Board", some "__len__")) fd ["self"] (spD (WK K) 1 m_Board_len) ∧ FunD K "__len__" "Board.__len__" (defArgs s_Board_len) (defBody s_Board_len) (defScope s_Board_len) [] [] (He.fAd K ("Board", some "__len__")) fd ∧ Binds K fd ["self"] [] := by
  obtain ⟨fd, F, B⟩ := x.d_Board_len
  refine ⟨fd, fn_body (n := 1) F sc_Board_len rfl fun cdv A fr s H E ds hl b tk hp => ?_, F, B⟩
  match ds, hl with
  | [d0], _ => exact ⟨_, ds_last (d1_ret (pd_len x.hK x.g_len (pd_ixA x.hK (pd_both (c0 := "Board") x.cl_Board x.na_Board_both (pd_var (d := d0) 0)) pd_int))), rfl⟩
theorem ok_Board_len (x : Fx P w K mg base) : FnB P w K mg base (WK K) 1 (He.fAd K ("Board", some "__len__")) m_Board_len 1 [] fun ds _ => ds := by
  obtain ⟨fd, G, F, B⟩ := okG_Board_len x
  exact fnB_all G F B rfl
theorem sc_check_order : FnScope ["board", "order", "index"] ["board", "order"] (defScope s_check_order) := ⟨rfl, rfl, rfl, by decide +kernel, rfl, by decide +kernel, by decide +kernel⟩
def m_check_order : List D → M D
  | [d0, d1] => runS (S := Unit) (seqF (T := Unit) (mIf (mNot (b1 asB ((pure d1) >>= isiD (tblT "tuple" [])))) ((pure D.non) >>= fun d => raise ⟨"InvalidOrder", some ("index", d)⟩) (pure (.nx ()))) fun _ => seqF (T := Unit) (((aCons (aCons (pure d1) aNil D dLen) aNil) (List D) fRange1) >>= fun ds => forD (S := Unit) (fun _ d => on1 (fun c2 => mIf (mOr (b1 asB (b2 (oIn "Board" true m_Board_contains (fun ds _ => ds)) (b2 dIxA (pure d1) (pure c2)) (pure d0))) (b1 asB (b2 dIn (b2 dIxA (pure d1) (pure c2)) (mSl (pure d1) (pure none) (b1 asI (pure c2)))))) ((pure c2) >>= fun d => raise ⟨"InvalidOrder", some ("index", d)⟩) (pure (.nx ()))) d) ds ()) fun _ => mIf (b1 asB (b2 dLt (aCons (pure d1) aNil D dLen) ((pure d0) >>= oLen "Board" m_Board_len (fun ds _ => ds)))) ((aCons (pure d1) aNil D dLen) >>= fun d => raise ⟨"InvalidOrder", some ("index", d)⟩) (pure (.nx ())))
  | _ => stuck
theorem okG_check_order (x : Fx P w K mg base) : ∃ fd, FnG P w K mg base 3 (He.fAd K ("check_order", none)) fd ["board", "order"] (spD (WK K) 2 m_check_order) ∧ FunD K "check_order" "check_order" (defArgs s_check_order) (defBody s_check_order) (defScope s_check_order) [] [] (He.fAd K ("check_order", none)) fd ∧ Binds K fd ["board", "order"] [] := by
  obtain ⟨fd, F, B⟩ := x.d_check_order
  refine ⟨fd, fn_body (n := 2) F sc_check_order rfl fun cdv A fr s H E ds hl b tk hp => ?_, F, B⟩
  match ds, hl with
  | [d0, d1], _ => exact ⟨_, ds_seq (mkT := fun (_ : Unit) => [.d d0, .d d1, .un]) (d1_if (pt_not (pt_val (pd_isiT x.hK x.g_isinstance x.g_tuple (by decide +kernel) (tbl_T (by decide)) (pd_var (d := d1) 1)))) (ds_last (d1_raise (c0 := "InvalidOrder") (fld := "index") x.ex_InvalidOrder (b.mono (by decide)) rfl tk x.gc_InvalidOrder pd_non)) (ds_nil (s := ()) (.s (.s (.u .n))))) (fun _ => ds_seq (mkT := fun (_ : Unit) => [.d d0, .d d1, .un]) (d1_for (S := Unit) (mk := fun (_ : Unit) => [.d d0, .d d1, .un]) (s0 := ()) x.hK hp rfl (di_range1 x.g_range (da_cons (pd_len x.hK x.g_len (pd_var (d := d1) 1)) da_nil)) (tg1 2 sc_check_order.nd) (.s (.s (.u .n))) (fun _ c2 => ds_last (d1_if (pt_w (pw_or (pt_notInO ((ok_Board_contains x).mono (by decide)) b tk x.fi_Board___contains__ x.fn_Board___contains__ (pd_ixA x.hK (pd_var (d := d1) 1) (pd_var (d := c2) 2)) (pd_var (d := d0) 0)) (pw_or1 (pt_in x.hK b (pd_ixA x.hK (pd_var (d := d1) 1) (pd_var (d := c2) 2)) (pd_sl x.hK (pd_var (d := d1) 1) do_none (do_some (pd_var (d := c2) 2))))))) (ds_last (d1_raise (c0 := "InvalidOrder") (fld := "index") x.ex_InvalidOrder (b.mono (by decide)) rfl tk x.gc_InvalidOrder (pd_var (d := c2) 2))) (ds_nil (s := ()) (.s (.s (.u .n)))))) (fun k l d => on1_bind k l d)) (fun _ => ds_last (d1_if (pt_lt (pd_len x.hK x.g_len (pd_var (d := d1) 1)) (pd_lenO ((ok_Board_len x).mono (by decide)) b x.fi_Board___len__ x.fn_Board___len__ x.g_len (pd_var (d := d0) 0))) (ds_last (d1_raise (c0 := "InvalidOrder") (fld := "index") x.ex_InvalidOrder (b.mono (by decide)) rfl tk x.gc_InvalidOrder (pd_len x.hK x.g_len (pd_var (d := d1) 1)))) (ds_nil (s := ()) (.u (.u (.u .n))))))), rfl⟩
theorem ok_check_order (x : Fx P w K mg base) : FnB P w K mg base (WK K) 3 (He.fAd K ("check_order", none)) m_check_order 2 [] fun ds _ => ds := by
  obtain ⟨fd, G, F, B⟩ := okG_check_order x
  exact fnB_all G F B rfl
theorem sc_is_order : FnScope ["board", "value"] ["board", "value"] (defScope s_is_order) := ⟨rfl, rfl, rfl, by decide +kernel, rfl, by decide +kernel, by decide +kernel⟩
def m_is_order : List D → M D
  | [d0, d1] => runS (S := Unit) (seqF (T := Unit) (tryM "InvalidOrder" [] (((aCons (pure d0) (aCons (pure d1) aNil)) D (cB 2 m_check_order fun ds _ => ds)) >>= fun _ => pure (.nx ())) (mRet (pure (D.bl false)))) fun _ => mRet (pure (D.bl true)))
  | _ => stuck
theorem okG_is_order (x : Fx P w K mg base) : ∃ fd, FnG P w K mg base 4 (He.fAd K ("is_order", none)) fd ["board", "value"] (spD (WK K) 2 m_is_order) ∧ FunD K "is_order" "is_order" (defArgs s_is_order) (defBody s_is_order) (defScope s_is_order) [] [] (He.fAd K ("is_order", none)) fd ∧ Binds K fd ["board", "value"] [] := by
  obtain ⟨fd, F, B⟩ := x.d_is_order
  refine ⟨fd, fn_body (n := 2) F sc_is_order rfl fun cdv A fr s H E ds hl b tk hp => ?_, F, B⟩
  match ds, hl with
  | [d0, d1], _ => exact ⟨_, ds_seq (mkT := fun (_ : Unit) => [.d d0, .d d1]) (d1_try (c0 := "InvalidOrder") (oth := []) rfl rfl tk x.gc_InvalidOrder x.exm_InvalidOrder_InvalidOrder (fun c h => nomatch h) (fun Wy pn xe t pp => ds_expr (pd_call ((ok_check_order x).mono (by decide)) ⟨b.rm, b.gd⟩ t x.f_check_order (da_cons (pd_var (d := d0) 0) (da_cons (pd_var (d := d1) 1) da_nil))) (ds_nil (s := ()) (.s (.s .n)))) (fun a pn => ds_last (d1_ret pd_bl))) (fun _ => ds_last (d1_ret pd_bl)), rfl⟩
theorem ok_is_order (x : Fx P w K mg base) : FnB P w K mg base (WK K) 4 (He.fAd K ("is_order", none)) m_is_order 2 [] fun ds _ => ds := by
  obtain ⟨fd, G, F, B⟩ := okG_is_order x
  exact fnB_all G F B rfl
theorem sc_does_fit : FnScope ["facts", "order", "worse", "better"] ["facts", "order"] (defScope s_does_fit) := ⟨rfl, rfl, rfl, by decide +kernel, rfl, by decide +kernel, by decide +kernel⟩
def m_does_fit : List D → M D
  | [d0, d1] => runS (S := Unit) (mRet (aCons (mLst ((b1 items (pure d0)) >>= fun ds => lcD (fun d => on2 (lcB (fun c1 => pure true) (fun c1 => b2 dLt ((pure d1) >>= kIndex (pure c1.1)) ((pure d1) >>= kIndex (pure c1.2)))) d) ds [])) aNil D fAll))
  | _ => stuck
theorem okG_does_fit (x : Fx P w K mg base) : ∃ fd, FnG P w K mg base 1 (He.fAd K ("does_fit", none)) fd ["facts", "order"] (spD (WK K) 2 m_does_fit) ∧ FunD K "does_fit" "does_fit" (defArgs s_does_fit) (defBody s_does_fit) (defScope s_does_fit) [] [] (He.fAd K ("does_fit", none)) fd ∧ Binds K fd ["facts", "order"] [] := by
  obtain ⟨fd, F, B⟩ := x.d_does_fit
  refine ⟨fd, fn_body (n := 2) F sc_does_fit rfl fun cdv A fr s H E ds hl b tk hp => ?_, F, B⟩
  match ds, hl with
  | [d0, d1], _ => exact ⟨_, ds_last (d1_ret (pd_all (pd_new (pn_lc x.hK rfl sc_does_fit.nd (dj_of (di_of x.hK (pd_var (d := d0) 0))) (own := [("worse", 2), ("better", 3)]) (blk_of (by rfl)) (fun s H C cl fp => tg2K K rfl 2 3 rfl rfl sc_does_fit.nd) (fun s H C cl fp c1 => ts_nil) (fun s H C cl fp c1 => pd_lt (pd_index x.hK (pd_var (d := d1) 1) (pd_var (d := c1.1) 2)) (pd_index x.hK (pd_var (d := d1) 1) (pd_var (d := c1.2) 3))))) rfl x.g_all)), rfl⟩
theorem ok_does_fit (x : Fx P w K mg base) : FnB P w K mg base (WK K) 1 (He.fAd K ("does_fit", none)) m_does_fit 2 [] fun ds _ => ds := by
  obtain ⟨fd, G, F, B⟩ := okG_does_fit x
  exact fnB_all G F B rfl
theorem sc_is_fitting : FnScope ["notes", "order"] ["notes", "order"] (defScope s_is_fitting) := ⟨rfl, rfl, rfl, by decide +kernel, rfl, by decide +kernel, by decide +kernel⟩
def m_is_fitting : List D → M D
  | [d0, d1] => runS (S := Unit) (mRet (vAnd ((aCons ((pure d0) >>= isO "Notes" fun d => calm (m_Notes_board [d])) (aCons (pure d1) aNil)) D (cB 2 m_is_order fun ds _ => ds)) ((aCons ((pure d0) >>= isO "Notes" fun d => calm (m_Notes_facts [d])) (aCons (pure d1) aNil)) D (cB 2 m_does_fit fun ds _ => ds))))
  | _ => stuck
theorem okG_is_fitting (x : Fx P w K mg base) : ∃ fd, FnG P w K mg base 5 (He.fAd K ("is_fitting", none)) fd ["notes", "order"] (spD (WK K) 2 m_is_fitting) ∧ FunD K "is_fitting" "is_fitting" (defArgs s_is_fitting) (defBody s_is_fitting) (defScope s_is_fitting) [] [] (He.fAd K ("is_fitting", none)) fd ∧ Binds K fd ["notes", "order"] [] := by
  obtain ⟨fd, F, B⟩ := x.d_is_fitting
  refine ⟨fd, fn_body (n := 2) F sc_is_fitting rfl fun cdv A fr s H E ds hl b tk hp => ?_, F, B⟩
  match ds, hl with
  | [d0, d1], _ => exact ⟨_, ds_last (d1_ret (pd_and (pd_call ((ok_is_order x).mono (by decide)) b tk x.f_is_order (da_cons (pd_prop (c0 := "Notes") ((ok_Notes_board x).mono (by decide)) b x.cl_Notes x.pr_Notes_board (pd_var (d := d0) 0)) (da_cons (pd_var (d := d1) 1) da_nil))) (pd_one (pd_call ((ok_does_fit x).mono (by decide)) b tk x.f_does_fit (da_cons (pd_prop (c0 := "Notes") ((ok_Notes_facts x).mono (by decide)) b x.cl_Notes x.pr_Notes_facts (pd_var (d := d0) 0)) (da_cons (pd_var (d := d1) 1) da_nil)))))), rfl⟩
theorem ok_is_fitting (x : Fx P w K mg base) : FnB P w K mg base (WK K) 5 (He.fAd K ("is_fitting", none)) m_is_fitting 2 [] fun ds _ => ds := by
  obtain ⟨fd, G, F, B⟩ := okG_is_fitting x
  exact fnB_all G F B rfl
theorem sc_peaks_by : FnScope ["order", "part", "found", "setting", "each"] ["order", "part"] (defScope s_peaks_by) := ⟨rfl, rfl, rfl, by decide +kernel, rfl, by decide +kernel, by decide +kernel⟩
def m_peaks_by : List D → M D
  | [d0, d1] => runS (S := Unit) ((aNil (List D) nLst) >>= fun v1 => seqF (T := List D) ((b1 items ((aCons (pure d1) aNil) D (cB 1 m_settings_in fun ds _ => ds))) >>= fun ds => forD (S := List D) (fun s2 d => on1 (fun c3 => mIf (b1 asB (aCons (mLst ((b1 items ((aCons (pure d1) (aCons (pure c3) aNil)) D (cB 2 m_beside_part fun ds _ => ds))) >>= fun ds => lcD (fun d => on1 (lcB (fun c4 => pure true) (fun c4 => b2 dLt ((pure d0) >>= kIndex (pure c4)) ((pure d0) >>= kIndex (pure c3)))) d) ds [])) aNil D fAll)) (mApp (pure c3) s2 fun v5 => pure (.nx (s2 ++ [v5]))) (pure (.nx s2))) d) ds v1) fun s2 => mRet (pure (D.lst s2)))
  | _ => stuck
theorem okG_peaks_by (x : Fx P w K mg base) : ∃ fd, FnG P w K mg base 3 (He.fAd K ("peaks_by", none)) fd ["order", "part"] (spD (WK K) 2 m_peaks_by) ∧ FunD K "peaks_by" "peaks_by" (defArgs s_peaks_by) (defBody s_peaks_by) (defScope s_peaks_by) [] [] (He.fAd K ("peaks_by", none)) fd ∧ Binds K fd ["order", "part"] [] := by
  obtain ⟨fd, F, B⟩ := x.d_peaks_by
  refine ⟨fd, fn_body (n := 2) F sc_peaks_by rfl fun cdv A fr s H E ds hl b tk hp => ?_, F, B⟩
  match ds, hl with
  | [d0, d1], _ => exact ⟨_, ds_set 2 sc_peaks_by.nd (dx_n (pn_lst da_nil)) (fun v1 => ds_seq (mkT := fun (s2 : List D) => [.d d0, .d d1, .ol s2, .un, .un]) (d1_for (S := List D) (mk := fun (s2 : List D) => [.d d0, .d d1, .ol s2, .un, .un]) (s0 := v1) x.hK hp rfl (di_of x.hK (pd_call ((ok_settings_in x).mono (by decide)) b tk x.f_settings_in (da_cons (pd_var (d := d1) 1) da_nil))) (tg1 3 sc_peaks_by.nd) (.s (.s (.s (.u (.u .n))))) (fun s2 c3 => ds_last (d1_if (pt_val (pd_all (pd_new (pn_lc x.hK rfl sc_peaks_by.nd (dj_of (di_of x.hK (pd_call ((ok_beside_part x).mono (by decide)) b tk x.f_beside_part (da_cons (pd_var (d := d1) 1) (da_cons (pd_var (d := c3) 3) da_nil))))) (own := [("each", 4)]) (blk_of (by rfl)) (fun s H C cl fp => tg1 4 sc_peaks_by.nd) (fun s H C cl fp c4 => ts_nil) (fun s H C cl fp c4 => pd_lt (pd_index x.hK (pd_var (d := d0) 0) (pd_var (d := c4) 4)) (pd_index x.hK (pd_var (d := d0) 0) (pd_var (d := c3) 3))))) rfl x.g_all)) (ds_append (xs := s2) 2 rfl (pd_var (d := c3) 3) (fun v5 => ds_nil (s := (s2 ++ [v5])) (.s (.s (.s (.u (.u .n)))))) (pv 2) (hb := (fun {t r} h k => pe_bm PySem.F.plainAttrs_list PySem.F.slot_list_append PySem.F.type_list_append h (pv 2) (pa_cons k pa_nil)))) (ds_nil (s := s2) (.s (.s (.s (.u (.u .n)))))))) (fun k l d => on1_bind k l d)) (fun s2 => ds_froz (xs := s2) 2 rfl (ds_last (d1_ret (pd_var (d := D.lst s2) 2))))), rfl⟩
theorem ok_peaks_by (x : Fx P w K mg base) : FnB P w K mg base (WK K) 3 (He.fAd K ("peaks_by", none)) m_peaks_by 2 [] fun ds _ => ds := by
  obtain ⟨fd, G, F, B⟩ := okG_peaks_by x
  exact fnB_all G F B rfl
theorem sc_squares_of : FnScope ["board", "found", "low", "one", "other", "stand", "last", "side", "each"] ["board"] (defScope s_squares_of) := ⟨rfl, rfl, rfl, by decide +kernel, rfl, by decide +kernel, by decide +kernel⟩
def m_squares_of : List D → M D
  | [d0] => runS (S := Unit) ((aNil (List D) nLst) >>= fun v1 => seqF (T := List D) ((b1 items ((pure d0) >>= isO "Board" fun d => calm (m_Board_settings [d]))) >>= fun ds => forD (S := List D) (fun s2 d => on1 (fun c3 => seqF (T := List D) (((aCons (aCons (pure c3) aNil D dLen) aNil) (List D) fRange1) >>= fun ds => forD (S := List D) (fun s4 d => on1 (fun c5 => seqF (T := List D) (((aCons (b2 dAdd (pure c5) (pure (D.int 1))) (aCons (aCons (pure c3) aNil D dLen) aNil)) (List D) fRange2) >>= fun ds => forD (S := List D) (fun s6 d => on1 (fun c7 => seqF (T := List D) ((b1 items (mLst ((b1 items (b2 dIxA ((pure d0) >>= isO "Board" fun d => calm (m_Board_whole [d])) (pure c5))) >>= fun ds => lcD (fun d => on1 (lcB (fun c8 => b1 asB (b2 dGt (pure c8) (b2 dIxA (pure c3) (pure c5)))) (fun c8 => pure c8)) d) ds []))) >>= fun ds => forD (S := List D) (fun s9 d => on1 (fun c10 => seqF (T := List D) ((b1 items (mLst ((b1 items (b2 dIxA ((pure d0) >>= isO "Board" fun d => calm (m_Board_whole [d])) (pure c7))) >>= fun ds => lcD (fun d => on1 (lcB (fun c11 => b1 asB (b2 dGt (pure c11) (b2 dIxA (pure c3) (pure c7)))) (fun c11 => pure c11)) d) ds []))) >>= fun ds => forD (S := List D) (fun s12 d => on1 (fun c13 => ((aCons (pure c3) (aCons (pure c5) (aCons (pure c10) aNil))) D (cB 3 m_turned_to fun ds _ => ds)) >>= fun v14 => mApp ((aCons (pure c3) (aCons ((aCons (pure c3) (aCons (pure c7) (aCons (pure c13) aNil))) D (cB 3 m_turned_to fun ds _ => ds)) (aCons (pure v14) (aCons ((aCons (pure v14) (aCons (pure c7) (aCons (pure c13) aNil))) D (cB 3 m_turned_to fun ds _ => ds)) aNil)))) D dTup) s12 fun v15 => pure (.nx (s12 ++ [v15]))) d) ds s9) fun s12 => pure (.nx s12)) d) ds s6) fun s9 => pure (.nx s9)) d) ds s4) fun s6 => pure (.nx s6)) d) ds s2) fun s4 => pure (.nx s4)) d) ds v1) fun s2 => mRet (mLst (b1 qSort (pure (false, s2)))))
  | _ => stuck
theorem okG_squares_of (x : Fx P w K mg base) : ∃ fd, FnG P w K mg base 3 (He.fAd K ("squares_of", none)) fd ["board"] (spD (WK K) 1 m_squares_of) ∧ FunD K "squares_of" "squares_of" (defArgs s_squares_of) (defBody s_squares_of) (defScope s_squares_of) [] [] (He.fAd K ("squares_of", none)) fd ∧ Binds K fd ["board"] [] := by
  obtain ⟨fd, F, B⟩ := x.d_squares_of
  refine ⟨fd, fn_body (n := 1) F sc_squares_of rfl fun cdv A fr s H E ds hl b tk hp => ?_, F, B⟩
  match ds, hl with
  | [d0], _ => exact ⟨_, ds_set 1 sc_squares_of.nd (dx_n (pn_lst da_nil)) (fun v1 => ds_seq (mkT := fun (s2 : List D) => [.d d0, .ol s2, .un, .un, .un, .un, .un, .un, .un]) (d1_for (S := List D) (mk := fun (s2 : List D) => [.d d0, .ol s2, .un, .un, .un, .un, .un, .un, .un]) (s0 := v1) x.hK hp rfl (di_of x.hK (pd_prop (c0 := "Board") ((ok_Board_settings x).mono (by decide)) b x.cl_Board x.pr_Board_settings (pd_var (d := d0) 0))) (tg1 2 sc_squares_of.nd) (.s (.s (.u (.u (.u (.u (.u (.u (.u .n))))))))) (fun s2 c3 => ds_seq (mkT := fun (s4 : List D) => [.d d0, .ol s4, .d c3, .un, .un, .un, .un, .un, .un]) (d1_for (S := List D) (mk := fun (s4 : List D) => [.d d0, .ol s4, .d c3, .un, .un, .un, .un, .un, .un]) (s0 := s2) x.hK hp rfl (di_range1 x.g_range (da_cons (pd_len x.hK x.g_len (pd_var (d := c3) 2)) da_nil)) (tg1 3 sc_squares_of.nd) (.s (.s (.s (.u (.u (.u (.u (.u (.u .n))))))))) (fun s4 c5 => ds_seq (mkT := fun (s6 : List D) => [.d d0, .ol s6, .d c3, .d c5, .un, .un, .un, .un, .un]) (d1_for (S := List D) (mk := fun (s6 : List D) => [.d d0, .ol s6, .d c3, .d c5, .un, .un, .un, .un, .un]) (s0 := s4) x.hK hp rfl (di_range2 x.g_range (da_cons (pd_add x.hK (pd_var (d := c5) 3) pd_int) (da_cons (pd_len x.hK x.g_len (pd_var (d := c3) 2)) da_nil))) (tg1 4 sc_squares_of.nd) (.s (.s (.s (.s (.u (.u (.u (.u (.u .n))))))))) (fun s6 c7 => ds_seq (mkT := fun (s9 : List D) => [.d d0, .ol s9, .d c3, .d c5, .d c7, .un, .un, .un, .un]) (d1_for (S := List D) (mk := fun (s9 : List D) => [.d d0, .ol s9, .d c3, .d c5, .d c7, .un, .un, .un, .un]) (s0 := s6) x.hK hp rfl (di_of x.hK (pd_new (pn_lc x.hK rfl sc_squares_of.nd (dj_of (di_of x.hK (pd_ixA x.hK (pd_prop (c0 := "Board") ((ok_Board_whole x).mono (by decide)) b x.cl_Board x.pr_Board_whole (pd_var (d := d0) 0)) (pd_var (d := c5) 3)))) (own := [("each", 8)]) (blk_of (by rfl)) (fun s H C cl fp => tg1 8 sc_squares_of.nd) (fun s H C cl fp c8 => ts_one (pt_gt (pd_var (d := c8) 8) (pd_ixA x.hK (pd_var (d := c3) 2) (pd_var (d := c5) 3)))) (fun s H C cl fp c8 => pd_var (d := c8) 8)))) (tg1 5 sc_squares_of.nd) (.s (.s (.s (.s (.s (.u (.u (.u (.u .n))))))))) (fun s9 c10 => ds_seq (mkT := fun (s12 : List D) => [.d d0, .ol s12, .d c3, .d c5, .d c7, .d c10, .un, .un, .un]) (d1_for (S := List D) (mk := fun (s12 : List D) => [.d d0, .ol s12, .d c3, .d c5, .d c7, .d c10, .un, .un, .un]) (s0 := s9) x.hK hp rfl (di_of x.hK (pd_new (pn_lc x.hK rfl sc_squares_of.nd (dj_of (di_of x.hK (pd_ixA x.hK (pd_prop (c0 := "Board") ((ok_Board_whole x).mono (by decide)) b x.cl_Board x.pr_Board_whole (pd_var (d := d0) 0)) (pd_var (d := c7) 4)))) (own := [("each", 8)]) (blk_of (by rfl)) (fun s H C cl fp => tg1 8 sc_squares_of.nd) (fun s H C cl fp c11 => ts_one (pt_gt (pd_var (d := c11) 8) (pd_ixA x.hK (pd_var (d := c3) 2) (pd_var (d := c7) 4)))) (fun s H C cl fp c11 => pd_var (d := c11) 8)))) (tg1 6 sc_squares_of.nd) (.s (.s (.s (.s (.s (.s (.u (.u (.u .n))))))))) (fun s12 c13 => ds_set 7 sc_squares_of.nd (dx_e (pd_call ((ok_turned_to x).mono (by decide)) b tk x.f_turned_to (da_cons (pd_var (d := c3) 2) (da_cons (pd_var (d := c5) 3) (da_cons (pd_var (d := c10) 5) da_nil))))) (fun v14 => ds_append (xs := s12) 1 rfl (pd_tup (da_cons (pd_var (d := c3) 2) (da_cons (pd_call ((ok_turned_to x).mono (by decide)) b tk x.f_turned_to (da_cons (pd_var (d := c3) 2) (da_cons (pd_var (d := c7) 4) (da_cons (pd_var (d := c13) 6) da_nil)))) (da_cons (pd_var (d := v14) 7) (da_cons (pd_call ((ok_turned_to x).mono (by decide)) b tk x.f_turned_to (da_cons (pd_var (d := v14) 7) (da_cons (pd_var (d := c7) 4) (da_cons (pd_var (d := c13) 6) da_nil)))) da_nil))))) (fun v15 => ds_nil (s := (s12 ++ [v15])) (.s (.s (.s (.s (.s (.s (.u (.u (.u .n)))))))))) (pv 1) (hb := (fun {t r} h k => pe_bm PySem.F.plainAttrs_list PySem.F.slot_list_append PySem.F.type_list_append h (pv 1) (pa_cons k pa_nil))))) (fun k l d => on1_bind k l d)) (fun s12 => ds_nil (s := s12) (.s (.s (.s (.s (.s (.u (.u (.u (.u .n))))))))))) (fun k l d => on1_bind k l d)) (fun s9 => ds_nil (s := s9) (.s (.s (.s (.s (.u (.u (.u (.u (.u .n))))))))))) (fun k l d => on1_bind k l d)) (fun s6 => ds_nil (s := s6) (.s (.s (.s (.u (.u (.u (.u (.u (.u .n))))))))))) (fun k l d => on1_bind k l d)) (fun s4 => ds_nil (s := s4) (.s (.s (.u (.u (.u (.u (.u (.u (.u .n))))))))))) (fun k l d => on1_bind k l d)) (fun s2 => ds_last (d1_ret (pd_new (pn_sorted x.hK b x.g_sorted (pq_var (xs := s2) 1)))))), rfl⟩
theorem ok_squares_of (x : Fx P w K mg base) : FnB P w K mg base (WK K) 3 (He.fAd K ("squares_of", none)) m_squares_of 1 [] fun ds _ => ds := by
  obtain ⟨fd, G, F, B⟩ := okG_squares_of x
  exact fnB_all G F B rfl
theorem sc_kind_by : FnScope ["order", "square", "low", "one", "other", "high", "first", "second", "corner"] ["order", "square"] (defScope s_kind_by) := ⟨rfl, rfl, rfl, by decide +kernel, rfl, by decide +kernel, by decide +kernel⟩
def m_kind_by : List D → M D
  | [d0, d1] => runS (S := Unit) ((mLst ((b1 items (pure d1)) >>= fun ds => lcD (fun d => on1 (lcB (fun c2 => pure true) (fun c2 => (pure d0) >>= kIndex (pure c2))) d) ds [])) >>= fun d => on4l (fun c1 => mTwo (b2 dEq (b2 dLt (pure c1.1) (pure c1.2.2.1)) (b2 dLt (pure c1.2.1) (pure c1.2.2.2))) (b2 dEq (b2 dLt (pure c1.1) (pure c1.2.1)) (b2 dLt (pure c1.2.2.1) (pure c1.2.2.2))) fun v3 v4 => seqF (T := Unit) (mIf (mAnd (b1 asB (pure v3)) (b1 asB (pure v4))) (mRet (pure (D.str ("plain" : Str)))) (pure (.nx ()))) fun _ => mRet (mIf (mOr (b1 asB (pure v3)) (b1 asB (pure v4))) (pure (D.str ("turned" : Str))) (pure (D.str ("crossed" : Str))))) d)
  | _ => stuck
theorem okG_kind_by (x : Fx P w K mg base) : ∃ fd, FnG P w K mg base 1 (He.fAd K ("kind_by", none)) fd ["order", "square"] (spD (WK K) 2 m_kind_by) ∧ FunD K "kind_by" "kind_by" (defArgs s_kind_by) (defBody s_kind_by) (defScope s_kind_by) [] [] (He.fAd K ("kind_by", none)) fd ∧ Binds K fd ["order", "square"] [] := by
  obtain ⟨fd, F, B⟩ := x.d_kind_by
  refine ⟨fd, fn_body (n := 2) F sc_kind_by rfl fun cdv A fr s H E ds hl b tk hp => ?_, F, B⟩
  match ds, hl with
  | [d0, d1], _ => exact ⟨_, ds_asg (tg4l 2 3 4 5 rfl sc_kind_by.nd) (pd_new (pn_lc x.hK rfl sc_kind_by.nd (dj_of (di_of x.hK (pd_var (d := d1) 1))) (own := [("corner", 8)]) (blk_of (by rfl)) (fun s H C cl fp => tg1 8 sc_kind_by.nd) (fun s H C cl fp c2 => ts_nil) (fun s H C cl fp c2 => pd_index x.hK (pd_var (d := d0) 0) (pd_var (d := c2) 8)))) (fun c1 => ds_par 6 7 rfl sc_kind_by.nd (dx_e (pd_eq x.hK b (pd_lt (pd_var (d := c1.1) 2) (pd_var (d := c1.2.2.1) 4)) (pd_lt (pd_var (d := c1.2.1) 3) (pd_var (d := c1.2.2.2) 5)))) (dx_e (pd_eq x.hK b (pd_lt (pd_var (d := c1.1) 2) (pd_var (d := c1.2.1) 3)) (pd_lt (pd_var (d := c1.2.2.1) 4) (pd_var (d := c1.2.2.2) 5)))) (fun v3 v4 => ds_seq (mkT := fun (_ : Unit) => [.d d0, .d d1, .d c1.1, .d c1.2.1, .d c1.2.2.1, .d c1.2.2.2, .d v3, .d v4, .un]) (d1_if (pt_w (pw_and (pt_val (pd_var (d := v3) 6)) (pw_and1 (pt_val (pd_var (d := v4) 7))))) (ds_last (d1_ret pd_str)) (ds_nil (s := ()) (.s (.s (.s (.s (.s (.s (.s (.s (.u .n))))))))))) (fun _ => ds_last (d1_ret (pd_ife (pt_w (pw_or (pt_val (pd_var (d := v3) 6)) (pw_or1 (pt_val (pd_var (d := v4) 7))))) pd_str pd_str))))), rfl⟩
theorem ok_kind_by (x : Fx P w K mg base) : FnB P w K mg base (WK K) 1 (He.fAd K ("kind_by", none)) m_kind_by 2 [] fun ds _ => ds := by
  obtain ⟨fd, G, F, B⟩ := okG_kind_by x
  exact fnB_all G F B rfl
theorem sc_is_rough : FnScope ["notes", "certificate"] ["notes", "certificate"] (defScope s_is_rough) := ⟨rfl, rfl, rfl, by decide +kernel, rfl, by decide +kernel, by decide +kernel⟩
def m_is_rough : List D → M D
  | [d0, d1] => runS (S := Unit) (seqF (T := Unit) (mIf (mOr (mNot (b1 asB ((pure d1) >>= isiD (tblT "tuple" [])))) (mOr (b1 asB (b2 dNe (aCons (pure d1) aNil D dLen) (pure (D.int 2)))) (mNot (b1 asB ((aCons (pure d0) (aCons (b2 dIxA (pure d1) (pure (D.int 1))) aNil)) D (cB 2 m_is_fitting fun ds _ => ds)))))) (mRet (pure (D.bl false))) (pure (.nx ()))) fun _ => mRet (vAnd (b2 dIn (b2 dIxA (pure d1) (pure (D.int 0))) ((aCons ((pure d0) >>= isO "Notes" fun d => calm (m_Notes_board [d])) aNil) D (cB 1 m_squares_of fun ds _ => ds))) (b2 dEq ((aCons (b2 dIxA (pure d1) (pure (D.int 1))) (aCons (b2 dIxA (pure d1) (pure (D.int 0))) aNil)) D (cB 2 m_kind_by fun ds _ => ds)) (pure (D.str ("crossed" : Str))))))
  | _ => stuck
theorem okG_is_rough (x : Fx P w K mg base) : ∃ fd, FnG P w K mg base 6 (He.fAd K ("is_rough", none)) fd ["notes", "certificate"] (spD (WK K) 2 m_is_rough) ∧ FunD K "is_rough" "is_rough" (defArgs s_is_rough) (defBody s_is_rough) (defScope s_is_rough) [] [] (He.fAd K ("is_rough", none)) fd ∧ Binds K fd ["notes", "certificate"] [] := by
  obtain ⟨fd, F, B⟩ := x.d_is_rough
  refine ⟨fd, fn_body (n := 2) F sc_is_rough rfl fun cdv A fr s H E ds hl b tk hp => ?_, F, B⟩
  match ds, hl with
  | [d0, d1], _ => exact ⟨_, ds_seq (mkT := fun (_ : Unit) => [.d d0, .d d1]) (d1_if (pt_w (pw_or (pt_not (pt_val (pd_isiT x.hK x.g_isinstance x.g_tuple (by decide +kernel) (tbl_T (by decide)) (pd_var (d := d1) 1)))) (pw_or (pt_ne x.hK b (pd_len x.hK x.g_len (pd_var (d := d1) 1)) pd_int) (pw_or1 (pt_not (pt_val (pd_call ((ok_is_fitting x).mono (by decide)) b tk x.f_is_fitting (da_cons (pd_var (d := d0) 0) (da_cons (pd_ixA x.hK (pd_var (d := d1) 1) pd_int) da_nil))))))))) (ds_last (d1_ret pd_bl)) (ds_nil (s := ()) (.s (.s .n)))) (fun _ => ds_last (d1_ret (pd_and (pd_in x.hK b (pd_ixA x.hK (pd_var (d := d1) 1) pd_int) (pd_call ((ok_squares_of x).mono (by decide)) b tk x.f_squares_of (da_cons (pd_prop (c0 := "Notes") ((ok_Notes_board x).mono (by decide)) b x.cl_Notes x.pr_Notes_board (pd_var (d := d0) 0)) da_nil))) (pd_one (pd_eq x.hK b (pd_call ((ok_kind_by x).mono (by decide)) b tk x.f_kind_by (da_cons (pd_ixA x.hK (pd_var (d := d1) 1) pd_int) (da_cons (pd_ixA x.hK (pd_var (d := d1) 1) pd_int) da_nil))) pd_str))))), rfl⟩
theorem ok_is_rough (x : Fx P w K mg base) : FnB P w K mg base (WK K) 6 (He.fAd K ("is_rough", none)) m_is_rough 2 [] fun ds _ => ds := by
  obtain ⟨fd, G, F, B⟩ := okG_is_rough x
  exact fnB_all G F B rfl
theorem sc_can_cross : FnScope ["notes", "square", "low", "one", "other", "high"] ["notes", "square"] (defScope s_can_cross) := ⟨rfl, rfl, rfl, by decide +kernel, rfl, by decide +kernel, by decide +kernel⟩
def m_can_cross : List D → M D
  | [d0, d1] => runS (S := Unit) ((pure d1) >>= fun d => on4 (fun c1 => seqF (T := Unit) (mIf (mAnd (mNot (b1 asB ((aCons (pure d0) (aCons (pure c1.1) (aCons ((aCons (pure c1.2.1) (aCons (pure c1.2.2.1) aNil)) D dTup) aNil))) D (cB 3 m_leads_to_some fun ds _ => ds)))) (mNot (b1 asB ((aCons (pure d0) (aCons (pure c1.2.2.2) (aCons ((aCons (pure c1.2.1) (aCons (pure c1.2.2.1) aNil)) D dTup) aNil))) D (cB 3 m_leads_to_some fun ds _ => ds))))) (mRet (pure (D.bl true))) (pure (.nx ()))) fun _ => mRet (vAnd (vNot ((aCons (pure d0) (aCons (pure c1.2.1) (aCons ((aCons (pure c1.1) (aCons (pure c1.2.2.2) aNil)) D dTup) aNil))) D (cB 3 m_leads_to_some fun ds _ => ds))) (vNot ((aCons (pure d0) (aCons (pure c1.2.2.1) (aCons ((aCons (pure c1.1) (aCons (pure c1.2.2.2) aNil)) D dTup) aNil))) D (cB 3 m_leads_to_some fun ds _ => ds))))) d)
  | _ => stuck
theorem okG_can_cross (x : Fx P w K mg base) : ∃ fd, FnG P w K mg base 4 (He.fAd K ("can_cross", none)) fd ["notes", "square"] (spD (WK K) 2 m_can_cross) ∧ FunD K "can_cross" "can_cross" (defArgs s_can_cross) (defBody s_can_cross) (defScope s_can_cross) [] [] (He.fAd K ("can_cross", none)) fd ∧ Binds K fd ["notes", "square"] [] := by
  obtain ⟨fd, F, B⟩ := x.d_can_cross
  refine ⟨fd, fn_body (n := 2) F sc_can_cross rfl fun cdv A fr s H E ds hl b tk hp => ?_, F, B⟩
  match ds, hl with
  | [d0, d1], _ => exact ⟨_, ds_asg (tg4 2 3 4 5 rfl rfl sc_can_cross.nd) (pd_var (d := d1) 1) (fun c1 => ds_seq (mkT := fun (_ : Unit) => [.d d0, .d d1, .d c1.1, .d c1.2.1, .d c1.2.2.1, .d c1.2.2.2]) (d1_if (pt_w (pw_and (pt_not (pt_val (pd_call ((ok_leads_to_some x).mono (by decide)) b tk x.f_leads_to_some (da_cons (pd_var (d := d0) 0) (da_cons (pd_var (d := c1.1) 2) (da_cons (pd_tup (da_cons (pd_var (d := c1.2.1) 3) (da_cons (pd_var (d := c1.2.2.1) 4) da_nil))) da_nil)))))) (pw_and1 (pt_not (pt_val (pd_call ((ok_leads_to_some x).mono (by decide)) b tk x.f_leads_to_some (da_cons (pd_var (d := d0) 0) (da_cons (pd_var (d := c1.2.2.2) 5) (da_cons (pd_tup (da_cons (pd_var (d := c1.2.1) 3) (da_cons (pd_var (d := c1.2.2.1) 4) da_nil))) da_nil))))))))) (ds_last (d1_ret pd_bl)) (ds_nil (s := ()) (.s (.s (.s (.s (.s (.s .n)))))))) (fun _ => ds_last (d1_ret (pd_and (pd_not (pd_call ((ok_leads_to_some x).mono (by decide)) b tk x.f_leads_to_some (da_cons (pd_var (d := d0) 0) (da_cons (pd_var (d := c1.2.1) 3) (da_cons (pd_tup (da_cons (pd_var (d := c1.1) 2) (da_cons (pd_var (d := c1.2.2.2) 5) da_nil))) da_nil))))) (pd_one (pd_not (pd_call ((ok_leads_to_some x).mono (by decide)) b tk x.f_leads_to_some (da_cons (pd_var (d := d0) 0) (da_cons (pd_var (d := c1.2.2.1) 4) (da_cons (pd_tup (da_cons (pd_var (d := c1.1) 2) (da_cons (pd_var (d := c1.2.2.2) 5) da_nil))) da_nil)))))))))), rfl⟩
theorem ok_can_cross (x : Fx P w K mg base) : FnB P w K mg base (WK K) 4 (He.fAd K ("can_cross", none)) m_can_cross 2 [] fun ds _ => ds := by
  obtain ⟨fd, G, F, B⟩ := okG_can_cross x
  exact fnB_all G F B rfl
theorem sc_accepts_whole : FnScope ["word", "notes", "certificate", "square"] ["word", "notes", "certificate"] (defScope s_accepts_whole) := ⟨rfl, rfl, rfl, by decide +kernel, rfl, by decide +kernel, by decide +kernel⟩
def m_accepts_whole : List D → M D
  | [d0, d1, d2] => runS (S := Unit) (seqF (T := Unit) (mIf (b1 asB (b2 dEq (pure d0) (pure (D.str ("one" : Str))))) (mRet (vAnd ((aCons (pure d2) aNil) D (cB 1 m_is_empty fun ds _ => ds)) (vNot ((aCons (pure d1) aNil) D (cB 1 m_can_be_two fun ds _ => ds))))) (pure (.nx ()))) fun _ => seqF (T := Unit) (mIf (b1 asB (b2 dEq (pure d0) (pure (D.str ("two" : Str))))) (mRet (vAnd ((aCons (pure d1) (aCons (pure d2) aNil)) D (cB 2 m_is_fitting fun ds _ => ds)) (b2 dGt (aCons ((aCons (pure d2) (aCons (((pure d1) >>= isO "Notes" fun d => calm (m_Notes_board [d])) >>= isO "Board" fun d => calm (m_Board_whole [d])) aNil)) D (cB 2 m_peaks_by fun ds _ => ds)) aNil D dLen) (pure (D.int 1))))) (pure (.nx ()))) fun _ => seqF (T := Unit) (mIf (b1 asB (b2 dEq (pure d0) (pure (D.str ("rough" : Str))))) (mRet ((aCons (pure d1) (aCons (pure d2) aNil)) D (cB 2 m_is_rough fun ds _ => ds))) (pure (.nx ()))) fun _ => mRet (vAnd ((aCons (pure d2) aNil) D (cB 1 m_is_empty fun ds _ => ds)) (vNot (aCons (mLst ((b1 items ((aCons ((pure d1) >>= isO "Notes" fun d => calm (m_Notes_board [d])) aNil) D (cB 1 m_squares_of fun ds _ => ds))) >>= fun ds => lcD (fun d => on1 (lcB (fun c1 => pure true) (fun c1 => (aCons (pure d1) (aCons (pure c1) aNil)) D (cB 2 m_can_cross fun ds _ => ds))) d) ds [])) aNil D fAny))))
  | _ => stuck
theorem okG_accepts_whole (x : Fx P w K mg base) : ∃ fd, FnG P w K mg base 7 (He.fAd K ("accepts_whole", none)) fd ["word", "notes", "certificate"] (spD (WK K) 3 m_accepts_whole) ∧ FunD K "accepts_whole" "accepts_whole" (defArgs s_accepts_whole) (defBody s_accepts_whole) (defScope s_accepts_whole) [] [] (He.fAd K ("accepts_whole", none)) fd ∧ Binds K fd ["word", "notes", "certificate"] [] := by
  obtain ⟨fd, F, B⟩ := x.d_accepts_whole
  refine ⟨fd, fn_body (n := 3) F sc_accepts_whole rfl fun cdv A fr s H E ds hl b tk hp => ?_, F, B⟩
  match ds, hl with
  | [d0, d1, d2], _ => exact ⟨_, ds_seq (mkT := fun (_ : Unit) => [.d d0, .d d1, .d d2, .un]) (d1_if (pt_eq x.hK b (pd_var (d := d0) 0) pd_str) (ds_last (d1_ret (pd_and (pd_call ((ok_is_empty x).mono (by decide)) b tk x.f_is_empty (da_cons (pd_var (d := d2) 2) da_nil)) (pd_one (pd_not (pd_call ((ok_can_be_two x).mono (by decide)) b tk x.f_can_be_two (da_cons (pd_var (d := d1) 1) da_nil))))))) (ds_nil (s := ()) (.s (.s (.s (.u .n)))))) (fun _ => ds_seq (mkT := fun (_ : Unit) => [.d d0, .d d1, .d d2, .un]) (d1_if (pt_eq x.hK b (pd_var (d := d0) 0) pd_str) (ds_last (d1_ret (pd_and (pd_call ((ok_is_fitting x).mono (by decide)) b tk x.f_is_fitting (da_cons (pd_var (d := d1) 1) (da_cons (pd_var (d := d2) 2) da_nil))) (pd_one (pd_gt (pd_len x.hK x.g_len (pd_call ((ok_peaks_by x).mono (by decide)) b tk x.f_peaks_by (da_cons (pd_var (d := d2) 2) (da_cons (pd_prop (c0 := "Board") ((ok_Board_whole x).mono (by decide)) b x.cl_Board x.pr_Board_whole (pd_prop (c0 := "Notes") ((ok_Notes_board x).mono (by decide)) b x.cl_Notes x.pr_Notes_board (pd_var (d := d1) 1))) da_nil)))) pd_int))))) (ds_nil (s := ()) (.s (.s (.s (.u .n)))))) (fun _ => ds_seq (mkT := fun (_ : Unit) => [.d d0, .d d1, .d d2, .un]) (d1_if (pt_eq x.hK b (pd_var (d := d0) 0) pd_str) (ds_last (d1_ret (pd_call ((ok_is_rough x).mono (by decide)) b tk x.f_is_rough (da_cons (pd_var (d := d1) 1) (da_cons (pd_var (d := d2) 2) da_nil))))) (ds_nil (s := ()) (.s (.s (.s (.u .n)))))) (fun _ => ds_last (d1_ret (pd_and (pd_call ((ok_is_empty x).mono (by decide)) b tk x.f_is_empty (da_cons (pd_var (d := d2) 2) da_nil)) (pd_one (pd_not (pd_any (pd_new (pn_lc x.hK rfl sc_accepts_whole.nd (dj_of (di_of x.hK (pd_call ((ok_squares_of x).mono (by decide)) b tk x.f_squares_of (da_cons (pd_prop (c0 := "Notes") ((ok_Notes_board x).mono (by decide)) b x.cl_Notes x.pr_Notes_board (pd_var (d := d1) 1)) da_nil)))) (own := [("square", 3)]) (blk_of (by rfl)) (fun s H C cl fp => tg1 3 sc_accepts_whole.nd) (fun s H C cl fp c1 => ts_nil) (fun s H C cl fp c1 => pd_call ((ok_can_cross x).mono (by decide)) ⟨b.rm, b.gd⟩ takes0 x.f_can_cross (da_cons (pd_var (d := d1) 1) (da_cons (pd_var (d := c1) 3) da_nil))))) rfl x.g_any)))))))), rfl⟩
theorem ok_accepts_whole (x : Fx P w K mg base) : FnB P w K mg base (WK K) 7 (He.fAd K ("accepts_whole", none)) m_accepts_whole 3 [] fun ds _ => ds := by
  obtain ⟨fd, G, F, B⟩ := okG_accepts_whole x
  exact fnB_all G F B rfl
theorem sc_is_way : FnScope ["notes", "row", "start", "goal", "k"] ["notes", "row", "start", "goal"] (defScope s_is_way) := ⟨rfl, rfl, rfl, by decide +kernel, rfl, by decide +kernel, by decide +kernel⟩
def m_is_way : List D → M D
  | [d0, d1, d2, d3] => runS (S := Unit) (seqF (T := Unit) (mIf (mOr (mNot (b1 asB ((pure d1) >>= isiD (tblT "tuple" [])))) (mOr (b1 asB (b2 dLt (aCons (pure d1) aNil D dLen) (pure (D.int 2)))) (mOr (b1 asB (b2 dNe (b2 dIxA (pure d1) (pure (D.int 0))) (pure d2))) (b1 asB (b2 dNe (b2 dIxA (pure d1) (b1 dNeg (pure (D.int 1)))) (pure d3)))))) (mRet (pure (D.bl false))) (pure (.nx ()))) fun _ => mRet (aCons (mLst (((aCons (b2 dSub (aCons (pure d1) aNil D dLen) (pure (D.int 1))) aNil) (List D) fRange1) >>= fun ds => lcD (fun d => on1 (lcB (fun c1 => pure true) (fun c1 => b2 dIn ((aCons (b2 dIxA (pure d1) (pure c1)) (aCons (b2 dIxA (pure d1) (b2 dAdd (pure c1) (pure (D.int 1)))) aNil)) D dTup) ((pure d0) >>= isO "Notes" fun d => calm (m_Notes_facts [d])))) d) ds [])) aNil D fAll))
  | _ => stuck
theorem okG_is_way (x : Fx P w K mg base) : ∃ fd, FnG P w K mg base 3 (He.fAd K ("is_way", none)) fd ["notes", "row", "start", "goal"] (spD (WK K) 4 m_is_way) ∧ FunD K "is_way" "is_way" (defArgs s_is_way) (defBody s_is_way) (defScope s_is_way) [] [] (He.fAd K ("is_way", none)) fd ∧ Binds K fd ["notes", "row", "start", "goal"] [] := by
  obtain ⟨fd, F, B⟩ := x.d_is_way
  refine ⟨fd, fn_body (n := 4) F sc_is_way rfl fun cdv A fr s H E ds hl b tk hp => ?_, F, B⟩
  match ds, hl with
  | [d0, d1, d2, d3], _ => exact ⟨_, ds_seq (mkT := fun (_ : Unit) => [.d d0, .d d1, .d d2, .d d3, .un]) (d1_if (pt_w (pw_or (pt_not (pt_val (pd_isiT x.hK x.g_isinstance x.g_tuple (by decide +kernel) (tbl_T (by decide)) (pd_var (d := d1) 1)))) (pw_or (pt_lt (pd_len x.hK x.g_len (pd_var (d := d1) 1)) pd_int) (pw_or (pt_ne x.hK b (pd_ixA x.hK (pd_var (d := d1) 1) pd_int) (pd_var (d := d2) 2)) (pw_or1 (pt_ne x.hK b (pd_ixA x.hK (pd_var (d := d1) 1) (pd_neg pd_int)) (pd_var (d := d3) 3))))))) (ds_last (d1_ret pd_bl)) (ds_nil (s := ()) (.s (.s (.s (.s (.u .n))))))) (fun _ => ds_last (d1_ret (pd_all (pd_new (pn_lc x.hK rfl sc_is_way.nd (dj_of (di_range1 x.g_range (da_cons (pd_sub (pd_len x.hK x.g_len (pd_var (d := d1) 1)) pd_int) da_nil))) (own := [("k", 4)]) (blk_of (by rfl)) (fun s H C cl fp => tg1 4 sc_is_way.nd) (fun s H C cl fp c1 => ts_nil) (fun s H C cl fp c1 => pd_in x.hK ⟨b.rm, b.gd⟩ (pd_tup (da_cons (pd_ixA x.hK (pd_var (d := d1) 1) (pd_var (d := c1) 4)) (da_cons (pd_ixA x.hK (pd_var (d := d1) 1) (pd_add x.hK (pd_var (d := c1) 4) pd_int)) da_nil))) (pd_prop (c0 := "Notes") ((ok_Notes_facts x).mono (by decide)) ⟨b.rm, b.gd⟩ x.cl_Notes x.pr_Notes_facts (pd_var (d := d0) 0))))) rfl x.g_all))), rfl⟩
theorem ok_is_way (x : Fx P w K mg base) : FnB P w K mg base (WK K) 3 (He.fAd K ("is_way", none)) m_is_way 4 [] fun ds _ => ds := by
  obtain ⟨fd, G, F, B⟩ := okG_is_way x
  exact fnB_all G F B rfl
theorem sc_does_rise : FnScope ["notes", "order", "start", "goal", "reached", "setting", "near", "each"] ["notes", "order", "start", "goal"] (defScope s_does_rise) := ⟨rfl, rfl, rfl, by decide +kernel, rfl, by decide +kernel, by decide +kernel⟩
def m_does_rise : List D → M D
  | [d0, d1, d2, d3] => runS (S := Unit) (((aCons (pure d2) aNil) (List D) nLst) >>= fun v1 => seqF (T := List D) ((b1 items (pure d1)) >>= fun ds => forD (S := List D) (fun s2 d => on1 (fun c3 => ((b1 items ((aCons (((pure d0) >>= isO "Notes" fun d => calm (m_Notes_board [d])) >>= isO "Board" fun d => calm (m_Board_whole [d])) (aCons (pure c3) aNil)) D (cB 2 m_beside_part fun ds _ => ds))) >>= fun ds => lcD (fun d => on1 (lcB (fun c4 => b1 asB (b2 qIn (pure c4) (pure (false, s2)))) (fun c4 => pure c4)) d) ds []) >>= fun v5 => mIf (mAnd (b1 asB (b2 qNotIn (pure c3) (pure (false, s2)))) (b1 asB (aCons (mLst ((b1 items (pure (D.lst v5))) >>= fun ds => lcD (fun d => on1 (lcB (fun c6 => pure true) (fun c6 => b2 dLt ((pure d1) >>= kIndex (pure c6)) ((pure d1) >>= kIndex (pure c3)))) d) ds [])) aNil D fAny))) (mApp (pure c3) s2 fun v7 => pure (.nx (s2 ++ [v7]))) (pure (.nx s2))) d) ds v1) fun s2 => mRet (b2 qIn (pure d3) (pure (false, s2))))
  | _ => stuck
theorem okG_does_rise (x : Fx P w K mg base) : ∃ fd, FnG P w K mg base 3 (He.fAd K ("does_rise", none)) fd ["notes", "order", "start", "goal"] (spD (WK K) 4 m_does_rise) ∧ FunD K "does_rise" "does_rise" (defArgs s_does_rise) (defBody s_does_rise) (defScope s_does_rise) [] [] (He.fAd K ("does_rise", none)) fd ∧ Binds K fd ["notes", "order", "start", "goal"] [] := by
  obtain ⟨fd, F, B⟩ := x.d_does_rise
  refine ⟨fd, fn_body (n := 4) F sc_does_rise rfl fun cdv A fr s H E ds hl b tk hp => ?_, F, B⟩
  match ds, hl with
  | [d0, d1, d2, d3], _ => exact ⟨_, ds_set 4 sc_does_rise.nd (dx_n (pn_lst (da_cons (pd_var (d := d2) 2) da_nil))) (fun v1 => ds_seq (mkT := fun (s2 : List D) => [.d d0, .d d1, .d d2, .d d3, .ol s2, .un, .un, .un]) (d1_for (S := List D) (mk := fun (s2 : List D) => [.d d0, .d d1, .d d2, .d d3, .ol s2, .un, .un, .un]) (s0 := v1) x.hK hp rfl (di_of x.hK (pd_var (d := d1) 1)) (tg1 5 sc_does_rise.nd) (.s (.s (.s (.s (.s (.u (.u (.u .n)))))))) (fun s2 c3 => ds_setLc 6 x.hK rfl sc_does_rise.nd (dj_of (di_of x.hK (pd_call ((ok_beside_part x).mono (by decide)) b tk x.f_beside_part (da_cons (pd_prop (c0 := "Board") ((ok_Board_whole x).mono (by decide)) b x.cl_Board x.pr_Board_whole (pd_prop (c0 := "Notes") ((ok_Notes_board x).mono (by decide)) b x.cl_Notes x.pr_Notes_board (pd_var (d := d0) 0))) (da_cons (pd_var (d := c3) 5) da_nil))))) (own := [("each", 7)]) (blk_of (by rfl)) (fun s H C cl fp => tg1 7 sc_does_rise.nd) (fun s H C cl fp c4 => ts_one (pt_inq x.hK ⟨b.rm, b.gd⟩ (pd_var (d := c4) 7) (pq_var (xs := s2) 4))) (fun s H C cl fp c4 => pd_var (d := c4) 7) (fun v5 => ds_froz (xs := v5) 6 rfl (ds_last (d1_if (pt_w (pw_and (pt_notInq x.hK b (pd_var (d := c3) 5) (pq_var (xs := s2) 4)) (pw_and1 (pt_val (pd_any (pd_new (pn_lc x.hK rfl sc_does_rise.nd (dj_of (di_of x.hK (pd_var (d := D.lst v5) 6))) (own := [("each", 7)]) (blk_of (by rfl)) (fun s H C cl fp => tg1 7 sc_does_rise.nd) (fun s H C cl fp c6 => ts_nil) (fun s H C cl fp c6 => pd_lt (pd_index x.hK (pd_var (d := d1) 1) (pd_var (d := c6) 7)) (pd_index x.hK (pd_var (d := d1) 1) (pd_var (d := c3) 5))))) rfl x.g_any))))) (ds_append (xs := s2) 4 rfl (pd_var (d := c3) 5) (fun v7 => ds_nil (s := (s2 ++ [v7])) (.s (.s (.s (.s (.s (.u (.u (.u .n))))))))) (pv 4) (hb := (fun {t r} h k => pe_bm PySem.F.plainAttrs_list PySem.F.slot_list_append PySem.F.type_list_append h (pv 4) (pa_cons k pa_nil)))) (ds_nil (s := s2) (.s (.s (.s (.s (.s (.u (.u (.u .n)))))))))))) (sw_true rfl rfl rfl (by decide +kernel))) (fun k l d => on1_bind k l d)) (fun s2 => ds_last (d1_ret (pd_inq x.hK b (pd_var (d := d3) 3) (pq_var (xs := s2) 4))))), rfl⟩
theorem ok_does_rise (x : Fx P w K mg base) : FnB P w K mg base (WK K) 3 (He.fAd K ("does_rise", none)) m_does_rise 4 [] fun ds _ => ds := by
  obtain ⟨fd, G, F, B⟩ := okG_does_rise x
  exact fnB_all G F B rfl
theorem sc_accepts_way : FnScope ["word", "notes", "claim", "certificate", "start", "goal"] ["word", "notes", "claim", "certificate"] (defScope s_accepts_way) := ⟨rfl, rfl, rfl, by decide +kernel, rfl, by decide +kernel, by decide +kernel⟩
def m_accepts_way : List D → M D
  | [d0, d1, d2, d3] => runS (S := Unit) (mTwo (b2 dIxA (pure d2) (pure (D.int 2))) (b2 dIxA (pure d2) (pure (D.int 3))) fun v1 v2 => seqF (T := Unit) (mIf (mOr (b1 asB (b2 (oIn "Board" true m_Board_contains (fun ds _ => ds)) (pure v1) ((pure d1) >>= isO "Notes" fun d => calm (m_Notes_board [d])))) (mOr (b1 asB (b2 (oIn "Board" true m_Board_contains (fun ds _ => ds)) (pure v2) ((pure d1) >>= isO "Notes" fun d => calm (m_Notes_board [d])))) (b1 asB (b2 dEq (pure v1) (pure v2))))) (mRet (pure (D.bl false))) (pure (.nx ()))) fun _ => seqF (T := Unit) (mIf (b1 asB (b2 dEq (pure d0) (pure (D.str ("rises" : Str))))) (mRet ((aCons (pure d1) (aCons (pure d3) (aCons (pure v1) (aCons (pure v2) aNil)))) D (cB 4 m_is_way fun ds _ => ds))) (pure (.nx ()))) fun _ => mRet (vAnd ((aCons (pure d1) (aCons (pure d3) aNil)) D (cB 2 m_is_fitting fun ds _ => ds)) (vNot ((aCons (pure d1) (aCons (pure d3) (aCons (pure v1) (aCons (pure v2) aNil)))) D (cB 4 m_does_rise fun ds _ => ds)))))
  | _ => stuck
theorem okG_accepts_way (x : Fx P w K mg base) : ∃ fd, FnG P w K mg base 6 (He.fAd K ("accepts_way", none)) fd ["word", "notes", "claim", "certificate"] (spD (WK K) 4 m_accepts_way) ∧ FunD K "accepts_way" "accepts_way" (defArgs s_accepts_way) (defBody s_accepts_way) (defScope s_accepts_way) [] [] (He.fAd K ("accepts_way", none)) fd ∧ Binds K fd ["word", "notes", "claim", "certificate"] [] := by
  obtain ⟨fd, F, B⟩ := x.d_accepts_way
  refine ⟨fd, fn_body (n := 4) F sc_accepts_way rfl fun cdv A fr s H E ds hl b tk hp => ?_, F, B⟩
  match ds, hl with
  | [d0, d1, d2, d3], _ => exact ⟨_, ds_par 4 5 rfl sc_accepts_way.nd (dx_e (pd_ixA x.hK (pd_var (d := d2) 2) pd_int)) (dx_e (pd_ixA x.hK (pd_var (d := d2) 2) pd_int)) (fun v1 v2 => ds_seq (mkT := fun (_ : Unit) => [.d d0, .d d1, .d d2, .d d3, .d v1, .d v2]) (d1_if (pt_w (pw_or (pt_notInO ((ok_Board_contains x).mono (by decide)) b tk x.fi_Board___contains__ x.fn_Board___contains__ (pd_var (d := v1) 4) (pd_prop (c0 := "Notes") ((ok_Notes_board x).mono (by decide)) b x.cl_Notes x.pr_Notes_board (pd_var (d := d1) 1))) (pw_or (pt_notInO ((ok_Board_contains x).mono (by decide)) b tk x.fi_Board___contains__ x.fn_Board___contains__ (pd_var (d := v2) 5) (pd_prop (c0 := "Notes") ((ok_Notes_board x).mono (by decide)) b x.cl_Notes x.pr_Notes_board (pd_var (d := d1) 1))) (pw_or1 (pt_eq x.hK b (pd_var (d := v1) 4) (pd_var (d := v2) 5)))))) (ds_last (d1_ret pd_bl)) (ds_nil (s := ()) (.s (.s (.s (.s (.s (.s .n)))))))) (fun _ => ds_seq (mkT := fun (_ : Unit) => [.d d0, .d d1, .d d2, .d d3, .d v1, .d v2]) (d1_if (pt_eq x.hK b (pd_var (d := d0) 0) pd_str) (ds_last (d1_ret (pd_call ((ok_is_way x).mono (by decide)) b tk x.f_is_way (da_cons (pd_var (d := d1) 1) (da_cons (pd_var (d := d3) 3) (da_cons (pd_var (d := v1) 4) (da_cons (pd_var (d := v2) 5) da_nil))))))) (ds_nil (s := ()) (.s (.s (.s (.s (.s (.s .n)))))))) (fun _ => ds_last (d1_ret (pd_and (pd_call ((ok_is_fitting x).mono (by decide)) b tk x.f_is_fitting (da_cons (pd_var (d := d1) 1) (da_cons (pd_var (d := d3) 3) da_nil))) (pd_one (pd_not (pd_call ((ok_does_rise x).mono (by decide)) b tk x.f_does_rise (da_cons (pd_var (d := d1) 1) (da_cons (pd_var (d := d3) 3) (da_cons (pd_var (d := v1) 4) (da_cons (pd_var (d := v2) 5) da_nil)))))))))))), rfl⟩
theorem ok_accepts_way (x : Fx P w K mg base) : FnB P w K mg base (WK K) 6 (He.fAd K ("accepts_way", none)) m_accepts_way 4 [] fun ds _ => ds := by
  obtain ⟨fd, G, F, B⟩ := okG_accepts_way x
  exact fnB_all G F B rfl
theorem sc_is_lot_checker : FnScope ["board", "peaks", "k", "each"] ["board", "peaks"] (defScope s_is_lot_checker) := ⟨rfl, rfl, rfl, by decide +kernel, rfl, by decide +kernel, by decide +kernel⟩
def m_is_lot_checker : List D → M D
  | [d0, d1] => runS (S := Unit) (seqF (T := Unit) (mIf (mOr (mNot (b1 asB ((pure d1) >>= isiD (tblT "tuple" [])))) (mOr (b1 asB (b2 dEq (pure d1) (aNil D dTup))) (mNot (b1 asB (aCons (mLst ((b1 items (pure d1)) >>= fun ds => lcD (fun d => on1 (lcB (fun c1 => pure true) (fun c1 => b2 (oIn "Board" false m_Board_contains (fun ds _ => ds)) (pure c1) (pure d0))) d) ds [])) aNil D fAll))))) (mRet (pure (D.bl false))) (pure (.nx ()))) fun _ => mRet (aCons (mLst (((aCons (b2 dSub (aCons (pure d1) aNil D dLen) (pure (D.int 1))) aNil) (List D) fRange1) >>= fun ds => lcD (fun d => on1 (lcB (fun c2 => pure true) (fun c2 => b2 dLt (b2 dIxA (pure d1) (pure c2)) (b2 dIxA (pure d1) (b2 dAdd (pure c2) (pure (D.int 1)))))) d) ds [])) aNil D fAll))
  | _ => stuck
theorem okG_is_lot_checker (x : Fx P w K mg base) : ∃ fd, FnG P w K mg base 2 (He.fAd K ("is_lot_checker", none)) fd ["board", "peaks"] (spD (WK K) 2 m_is_lot_checker) ∧ FunD K "is_lot" "is_lot" (defArgs s_is_lot_checker) (defBody s_is_lot_checker) (defScope s_is_lot_checker) [] [] (He.fAd K ("is_lot_checker", none)) fd ∧ Binds K fd ["board", "peaks"] [] := by
  obtain ⟨fd, F, B⟩ := x.d_is_lot_checker
  refine ⟨fd, fn_body (n := 2) F sc_is_lot_checker rfl fun cdv A fr s H E ds hl b tk hp => ?_, F, B⟩
  match ds, hl with
  | [d0, d1], _ => exact ⟨_, ds_seq (mkT := fun (_ : Unit) => [.d d0, .d d1, .un, .un]) (d1_if (pt_w (pw_or (pt_not (pt_val (pd_isiT x.hK x.g_isinstance x.g_tuple (by decide +kernel) (tbl_T (by decide)) (pd_var (d := d1) 1)))) (pw_or (pt_eq x.hK b (pd_var (d := d1) 1) (pd_tup da_nil)) (pw_or1 (pt_not (pt_val (pd_all (pd_new (pn_lc x.hK rfl sc_is_lot_checker.nd (dj_of (di_of x.hK (pd_var (d := d1) 1))) (own := [("each", 3)]) (blk_of (by rfl)) (fun s H C cl fp => tg1 3 sc_is_lot_checker.nd) (fun s H C cl fp c1 => ts_nil) (fun s H C cl fp c1 => pd_inO ((ok_Board_contains x).mono (by decide)) ⟨b.rm, b.gd⟩ takes0 x.fi_Board___contains__ x.fn_Board___contains__ (pd_var (d := c1) 3) (pd_var (d := d0) 0)))) rfl x.g_all))))))) (ds_last (d1_ret pd_bl)) (ds_nil (s := ()) (.s (.s (.u (.u .n)))))) (fun _ => ds_last (d1_ret (pd_all (pd_new (pn_lc x.hK rfl sc_is_lot_checker.nd (dj_of (di_range1 x.g_range (da_cons (pd_sub (pd_len x.hK x.g_len (pd_var (d := d1) 1)) pd_int) da_nil))) (own := [("k", 2)]) (blk_of (by rfl)) (fun s H C cl fp => tg1 2 sc_is_lot_checker.nd) (fun s H C cl fp c2 => ts_nil) (fun s H C cl fp c2 => pd_lt (pd_ixA x.hK (pd_var (d := d1) 1) (pd_var (d := c2) 2)) (pd_ixA x.hK (pd_var (d := d1) 1) (pd_add x.hK (pd_var (d := c2) 2) pd_int))))) rfl x.g_all))), rfl⟩
theorem ok_is_lot_checker (x : Fx P w K mg base) : FnB P w K mg base (WK K) 2 (He.fAd K ("is_lot_checker", none)) m_is_lot_checker 2 [] fun ds _ => ds := by
  obtain ⟨fd, G, F, B⟩ := okG_is_lot_checker x
  exact fnB_all G F B rfl
theorem sc_told_peaks : FnScope ["notes", "peaks", "found", "setting", "other"] ["notes", "peaks"] (defScope s_told_peaks) := ⟨rfl, rfl, rfl, by decide +kernel, rfl, by decide +kernel, by decide +kernel⟩
def m_told_peaks : List D → M D
  | [d0, d1] => runS (S := Unit) ((mLst (b1 qList (b1 asQ ((pure d0) >>= isO "Notes" fun d => calm (m_Notes_facts [d]))))) >>= fun v1 => seqF (T := D) ((b1 items (pure d1)) >>= fun ds => forD (S := D) (fun s2 d => on1 (fun c3 => (b2 dAdd (pure s2) (mLst ((b1 items ((aCons (((pure d0) >>= isO "Notes" fun d => calm (m_Notes_board [d])) >>= isO "Board" fun d => calm (m_Board_whole [d])) (aCons (pure c3) aNil)) D (cB 2 m_beside_part fun ds _ => ds))) >>= fun ds => lcD (fun d => on1 (lcB (fun c5 => pure true) (fun c5 => (aCons (pure c5) (aCons (pure c3) aNil)) D dTup)) d) ds []))) >>= fun v4 => pure (.nx v4)) d) ds v1) fun s2 => mRet (pure s2))
  | _ => stuck
theorem okG_told_peaks (x : Fx P w K mg base) : ∃ fd, FnG P w K mg base 3 (He.fAd K ("told_peaks", none)) fd ["notes", "peaks"] (spD (WK K) 2 m_told_peaks) ∧ FunD K "told_peaks" "told_peaks" (defArgs s_told_peaks) (defBody s_told_peaks) (defScope s_told_peaks) [] [] (He.fAd K ("told_peaks", none)) fd ∧ Binds K fd ["notes", "peaks"] [] := by
  obtain ⟨fd, F, B⟩ := x.d_told_peaks
  refine ⟨fd, fn_body (n := 2) F sc_told_peaks rfl fun cdv A fr s H E ds hl b tk hp => ?_, F, B⟩
  match ds, hl with
  | [d0, d1], _ => exact ⟨_, ds_set 2 sc_told_peaks.nd (dx_e (pd_new (pn_list x.hK x.g_list (pq_of (pd_prop (c0 := "Notes") ((ok_Notes_facts x).mono (by decide)) b x.cl_Notes x.pr_Notes_facts (pd_var (d := d0) 0)))))) (fun v1 => ds_seq (mkT := fun (s2 : D) => [.d d0, .d d1, .d s2, .un, .un]) (d1_for (S := D) (mk := fun (s2 : D) => [.d d0, .d d1, .d s2, .un, .un]) (s0 := v1) x.hK hp rfl (di_of x.hK (pd_var (d := d1) 1)) (tg1 3 sc_told_peaks.nd) (.s (.s (.s (.u (.u .n))))) (fun s2 c3 => ds_set 2 sc_told_peaks.nd (dx_e (pd_add x.hK (pd_var (d := s2) 2) (pd_new (pn_lc x.hK rfl sc_told_peaks.nd (dj_of (di_of x.hK (pd_call ((ok_beside_part x).mono (by decide)) b tk x.f_beside_part (da_cons (pd_prop (c0 := "Board") ((ok_Board_whole x).mono (by decide)) b x.cl_Board x.pr_Board_whole (pd_prop (c0 := "Notes") ((ok_Notes_board x).mono (by decide)) b x.cl_Notes x.pr_Notes_board (pd_var (d := d0) 0))) (da_cons (pd_var (d := c3) 3) da_nil))))) (own := [("other", 4)]) (blk_of (by rfl)) (fun s H C cl fp => tg1 4 sc_told_peaks.nd) (fun s H C cl fp c5 => ts_nil) (fun s H C cl fp c5 => pd_tup (da_cons (pd_var (d := c5) 4) (da_cons (pd_var (d := c3) 3) da_nil))))))) (fun v4 => ds_nil (s := v4) (.s (.s (.s (.u (.u .n))))))) (fun k l d => on1_bind k l d)) (fun s2 => ds_last (d1_ret (pd_var (d := s2) 2)))), rfl⟩
theorem ok_told_peaks (x : Fx P w K mg base) : FnB P w K mg base (WK K) 3 (He.fAd K ("told_peaks", none)) m_told_peaks 2 [] fun ds _ => ds := by
  obtain ⟨fd, G, F, B⟩ := okG_told_peaks x
  exact fnB_all G F B rfl
theorem sc_can_be_all : FnScope ["notes", "peaks", "facts", "left", "turn", "setting", "waits", "beside", "worse", "better", "other"] ["notes", "peaks"] (defScope s_can_be_all) := ⟨rfl, rfl, rfl, by decide +kernel, rfl, by decide +kernel, by decide +kernel⟩
def m_can_be_all : List D → M D
  | [d0, d1] => runS (S := Unit) (mTwo ((aCons (pure d0) (aCons (pure d1) aNil)) D (cB 2 m_told_peaks fun ds _ => ds)) (b1 qList (b1 asQ (((pure d0) >>= isO "Notes" fun d => calm (m_Notes_board [d])) >>= isO "Board" fun d => calm (m_Board_settings [d])))) fun v1 v2 => seqF (T := List D) (((aCons (b1 qLen (pure (false, v2))) aNil) (List D) fRange1) >>= fun ds => forD (S := List D) (fun s3 d => on1 (fun c4 => seqF (T := List D) ((b1 items (mLst (b1 qList (pure (false, s3))))) >>= fun ds => forD (S := List D) (fun s5 d => on1 (fun c6 => ((b1 items (pure v1)) >>= fun ds => lcD (fun d => on2 (lcB (fun c7 => mAnd (b1 asB (b2 dEq (pure c7.1) (pure c6))) (b1 asB (b2 qIn (pure c7.2) (pure (false, s5))))) (fun c7 => pure c7.2)) d) ds []) >>= fun v8 => ((b1 items ((aCons (((pure d0) >>= isO "Notes" fun d => calm (m_Notes_board [d])) >>= isO "Board" fun d => calm (m_Board_whole [d])) (aCons (pure c6) aNil)) D (cB 2 m_beside_part fun ds _ => ds))) >>= fun ds => lcD (fun d => on1 (lcB (fun c9 => b1 asB (b2 qNotIn (pure c9) (pure (false, s5)))) (fun c9 => pure c9)) d) ds []) >>= fun v10 => mIf (mAnd (b1 asB (b2 dEq (pure (D.lst v8)) (aNil D dLst))) (mOr (b1 asB (b2 dIn (pure c6) (pure d1))) (b1 asB (b2 dNe (pure (D.lst v10)) (aNil D dLst))))) (mRem (pure c6) s5 fun v11 => pure (.nx v11)) (pure (.nx s5))) d) ds s3) fun s5 => pure (.nx s5)) d) ds v2) fun s3 => mRet (b2 qEq (pure (false, s3)) (aNil D dLst)))
  | _ => stuck
theorem okG_can_be_all (x : Fx P w K mg base) : ∃ fd, FnG P w K mg base 4 (He.fAd K ("can_be_all", none)) fd ["notes", "peaks"] (spD (WK K) 2 m_can_be_all) ∧ FunD K "can_be_all" "can_be_all" (defArgs s_can_be_all) (defBody s_can_be_all) (defScope s_can_be_all) [] [] (He.fAd K ("can_be_all", none)) fd ∧ Binds K fd ["notes", "peaks"] [] := by
  obtain ⟨fd, F, B⟩ := x.d_can_be_all
  refine ⟨fd, fn_body (n := 2) F sc_can_be_all rfl fun cdv A fr s H E ds hl b tk hp => ?_, F, B⟩
  match ds, hl with
  | [d0, d1], _ => exact ⟨_, ds_parC 2 3 rfl sc_can_be_all.nd (dx_e (pd_call ((ok_told_peaks x).mono (by decide)) b tk x.f_told_peaks (da_cons (pd_var (d := d0) 0) (da_cons (pd_var (d := d1) 1) da_nil)))) (dx_n (pn_list x.hK x.g_list (pq_of (pd_prop (c0 := "Board") ((ok_Board_settings x).mono (by decide)) b x.cl_Board x.pr_Board_settings (pd_prop (c0 := "Notes") ((ok_Notes_board x).mono (by decide)) b x.cl_Notes x.pr_Notes_board (pd_var (d := d0) 0)))))) (fun v1 v2 => ds_seq (mkT := fun (s3 : List D) => [.d d0, .d d1, .d v1, .ol s3, .un, .un, .un, .un, .un, .un, .un]) (d1_for (S := List D) (mk := fun (s3 : List D) => [.d d0, .d d1, .d v1, .ol s3, .un, .un, .un, .un, .un, .un, .un]) (s0 := v2) x.hK hp rfl (di_range1 x.g_range (da_cons (pd_lenq x.hK x.g_len (pq_var (xs := v2) 3)) da_nil)) (tg1 4 sc_can_be_all.nd) (.s (.s (.s (.s (.u (.u (.u (.u (.u (.u (.u .n))))))))))) (fun s3 c4 => ds_seq (mkT := fun (s5 : List D) => [.d d0, .d d1, .d v1, .ol s5, .d c4, .un, .un, .un, .un, .un, .un]) (d1_for (S := List D) (mk := fun (s5 : List D) => [.d d0, .d d1, .d v1, .ol s5, .d c4, .un, .un, .un, .un, .un, .un]) (s0 := s3) x.hK hp rfl (di_of x.hK (pd_new (pn_list x.hK x.g_list (pq_var (xs := s3) 3)))) (tg1 5 sc_can_be_all.nd) (.s (.s (.s (.s (.s (.u (.u (.u (.u (.u (.u .n))))))))))) (fun s5 c6 => ds_setLc 6 x.hK rfl sc_can_be_all.nd (dj_of (di_of x.hK (pd_var (d := v1) 2))) (own := [("worse", 8), ("better", 9)]) (blk_of (by rfl)) (fun s H C cl fp => tg2K K rfl 8 9 rfl rfl sc_can_be_all.nd) (fun s H C cl fp c7 => ts_one (pt_w (pw_and (pt_eq x.hK ⟨b.rm, b.gd⟩ (pd_var (d := c7.1) 8) (pd_var (d := c6) 5)) (pw_and1 (pt_inq x.hK ⟨b.rm, b.gd⟩ (pd_var (d := c7.2) 9) (pq_var (xs := s5) 3)))))) (fun s H C cl fp c7 => pd_var (d := c7.2) 9) (fun v8 => ds_froz (xs := v8) 6 rfl (ds_setLc 7 x.hK rfl sc_can_be_all.nd (dj_of (di_of x.hK (pd_call ((ok_beside_part x).mono (by decide)) b tk x.f_beside_part (da_cons (pd_prop (c0 := "Board") ((ok_Board_whole x).mono (by decide)) b x.cl_Board x.pr_Board_whole (pd_prop (c0 := "Notes") ((ok_Notes_board x).mono (by decide)) b x.cl_Notes x.pr_Notes_board (pd_var (d := d0) 0))) (da_cons (pd_var (d := c6) 5) da_nil))))) (own := [("other", 10)]) (blk_of (by rfl)) (fun s H C cl fp => tg1 10 sc_can_be_all.nd) (fun s H C cl fp c9 => ts_one (pt_notInq x.hK ⟨b.rm, b.gd⟩ (pd_var (d := c9) 10) (pq_var (xs := s5) 3))) (fun s H C cl fp c9 => pd_var (d := c9) 10) (fun v10 => ds_froz (xs := v10) 7 rfl (ds_last (d1_if (pt_w (pw_and (pt_eq x.hK b (pd_var (d := D.lst v8) 6) (pd_lst da_nil)) (pw_and1 (pt_w (pw_or (pt_in x.hK b (pd_var (d := c6) 5) (pd_var (d := d1) 1)) (pw_or1 (pt_ne x.hK b (pd_var (d := D.lst v10) 7) (pd_lst da_nil)))))))) (ds_remove (xs := s5) 3 rfl (pd_var (d := c6) 5) (fun v11 => ds_nil (s := v11) (.s (.s (.s (.s (.s (.u (.u (.u (.u (.u (.u .n)))))))))))) (fun {t r} h k => pe_bm PySem.F.plainAttrs_list PySem.F.slot_list_remove PySem.F.type_list_remove h (pv 3) (pa_cons k pa_nil))) (ds_nil (s := s5) (.s (.s (.s (.s (.s (.u (.u (.u (.u (.u (.u .n))))))))))))))) (sw_true rfl rfl rfl (by decide +kernel)))) (sw_true rfl rfl rfl (by decide +kernel))) (fun k l d => on1_bind k l d)) (fun s5 => ds_nil (s := s5) (.s (.s (.s (.s (.u (.u (.u (.u (.u (.u (.u .n))))))))))))) (fun k l d => on1_bind k l d)) (fun s3 => ds_last (d1_ret (pd_eqq x.hK b (pq_var (xs := s3) 3) (pd_lst da_nil))))), rfl⟩
theorem ok_can_be_all (x : Fx P w K mg base) : FnB P w K mg base (WK K) 4 (He.fAd K ("can_be_all", none)) m_can_be_all 2 [] fun ds _ => ds := by
  obtain ⟨fd, G, F, B⟩ := okG_can_be_all x
  exact fnB_all G F B rfl
theorem sc_accepts_peaks : FnScope ["word", "notes", "peaks", "certificate"] ["word", "notes", "peaks", "certificate"] (defScope s_accepts_peaks) := ⟨rfl, rfl, rfl, by decide +kernel, rfl, by decide +kernel, by decide +kernel⟩
def m_accepts_peaks : List D → M D
  | [d0, d1, d2, d3] => runS (S := Unit) (seqF (T := Unit) (mIf (mNot (b1 asB ((aCons ((pure d1) >>= isO "Notes" fun d => calm (m_Notes_board [d])) (aCons (pure d2) aNil)) D (cB 2 m_is_lot_checker fun ds _ => ds)))) (mRet (pure (D.bl false))) (pure (.nx ()))) fun _ => seqF (T := Unit) (mIf (b1 asB (b2 dEq (pure d0) (pure (D.str ("never" : Str))))) (mRet (vAnd ((aCons (pure d3) aNil) D (cB 1 m_is_empty fun ds _ => ds)) (vNot ((aCons (pure d1) (aCons (pure d2) aNil)) D (cB 2 m_can_be_all fun ds _ => ds))))) (pure (.nx ()))) fun _ => mRet (vAnd ((aCons (pure d1) (aCons (pure d3) aNil)) D (cB 2 m_is_fitting fun ds _ => ds)) (b2 dEq (aCons ((aCons (pure d3) (aCons (((pure d1) >>= isO "Notes" fun d => calm (m_Notes_board [d])) >>= isO "Board" fun d => calm (m_Board_whole [d])) aNil)) D (cB 2 m_peaks_by fun ds _ => ds)) aNil D cTuple) (pure d2))))
  | _ => stuck
theorem okG_accepts_peaks (x : Fx P w K mg base) : ∃ fd, FnG P w K mg base 6 (He.fAd K ("accepts_peaks", none)) fd ["word", "notes", "peaks", "certificate"] (spD (WK K) 4 m_accepts_peaks) ∧ FunD K "accepts_peaks" "accepts_peaks" (defArgs s_accepts_peaks) (defBody s_accepts_peaks) (defScope s_accepts_peaks) [] [] (He.fAd K ("accepts_peaks", none)) fd ∧ Binds K fd ["word", "notes", "peaks", "certificate"] [] := by
  obtain ⟨fd, F, B⟩ := x.d_accepts_peaks
  refine ⟨fd, fn_body (n := 4) F sc_accepts_peaks rfl fun cdv A fr s H E ds hl b tk hp => ?_, F, B⟩
  match ds, hl with
  | [d0, d1, d2, d3], _ => exact ⟨_, ds_seq (mkT := fun (_ : Unit) => [.d d0, .d d1, .d d2, .d d3]) (d1_if (pt_not (pt_val (pd_call ((ok_is_lot_checker x).mono (by decide)) b tk x.f_is_lot_checker (da_cons (pd_prop (c0 := "Notes") ((ok_Notes_board x).mono (by decide)) b x.cl_Notes x.pr_Notes_board (pd_var (d := d1) 1)) (da_cons (pd_var (d := d2) 2) da_nil))))) (ds_last (d1_ret pd_bl)) (ds_nil (s := ()) (.s (.s (.s (.s .n)))))) (fun _ => ds_seq (mkT := fun (_ : Unit) => [.d d0, .d d1, .d d2, .d d3]) (d1_if (pt_eq x.hK b (pd_var (d := d0) 0) pd_str) (ds_last (d1_ret (pd_and (pd_call ((ok_is_empty x).mono (by decide)) b tk x.f_is_empty (da_cons (pd_var (d := d3) 3) da_nil)) (pd_one (pd_not (pd_call ((ok_can_be_all x).mono (by decide)) b tk x.f_can_be_all (da_cons (pd_var (d := d1) 1) (da_cons (pd_var (d := d2) 2) da_nil)))))))) (ds_nil (s := ()) (.s (.s (.s (.s .n)))))) (fun _ => ds_last (d1_ret (pd_and (pd_call ((ok_is_fitting x).mono (by decide)) b tk x.f_is_fitting (da_cons (pd_var (d := d1) 1) (da_cons (pd_var (d := d3) 3) da_nil))) (pd_one (pd_eq x.hK b (pd_tuple x.hK x.g_tuple (pd_call ((ok_peaks_by x).mono (by decide)) b tk x.f_peaks_by (da_cons (pd_var (d := d3) 3) (da_cons (pd_prop (c0 := "Board") ((ok_Board_whole x).mono (by decide)) b x.cl_Board x.pr_Board_whole (pd_prop (c0 := "Notes") ((ok_Notes_board x).mono (by decide)) b x.cl_Notes x.pr_Notes_board (pd_var (d := d1) 1))) da_nil)))) (pd_var (d := d2) 2))))))), rfl⟩
theorem ok_accepts_peaks (x : Fx P w K mg base) : FnB P w K mg base (WK K) 6 (He.fAd K ("accepts_peaks", none)) m_accepts_peaks 4 [] fun ds _ => ds := by
  obtain ⟨fd, G, F, B⟩ := okG_accepts_peaks x
  exact fnB_all G F B rfl
theorem sc_accepts : FnScope ["claim", "certificate", "notes"] ["claim", "certificate"] (defScope s_accepts) := ⟨rfl, rfl, rfl, by decide +kernel, rfl, by decide +kernel, by decide +kernel⟩
def m_accepts : List D → M D
  | [d0, d1] => runS (S := Unit) (seqF (T := Unit) (mIf (mOr (mNot (b1 asB ((pure d0) >>= isiD (tblT "tuple" [])))) (mOr (b1 asB (b2 dLt (aCons (pure d0) aNil D dLen) (pure (D.int 2)))) (mNot (b1 asB ((b2 dIxA (pure d0) (pure (D.int 0))) >>= isiD (tblT "str" [])))))) (mRet (pure (D.bl false))) (pure (.nx ()))) fun _ => seqF (T := Unit) (mIf (mOr (b1 asB ((b2 dIxA (pure d0) (pure (D.int 0))) >>= mdIn true kv_LENGTHS)) (b1 asB (b2 dNe (aCons (pure d0) aNil D dLen) ((b2 dIxA (pure d0) (pure (D.int 0))) >>= mdIx kv_LENGTHS)))) (mRet (pure (D.bl false))) (pure (.nx ()))) fun _ => ((aCons (b2 dIxA (pure d0) (pure (D.int 1))) aNil) D (cB 1 m_read_notes fun ds _ => ds)) >>= fun v1 => seqF (T := Unit) (mIf (b1 asB (b1 dIsN (pure v1))) (mRet (pure (D.bl false))) (pure (.nx ()))) fun _ => seqF (T := Unit) (mIf (b1 asB (b2 dEq (aCons (pure d0) aNil D dLen) (pure (D.int 2)))) (mRet ((aCons (b2 dIxA (pure d0) (pure (D.int 0))) (aCons (pure v1) (aCons (pure d1) aNil))) D (cB 3 m_accepts_whole fun ds _ => ds))) (pure (.nx ()))) fun _ => seqF (T := Unit) (mIf (b1 asB (b2 dEq (aCons (pure d0) aNil D dLen) (pure (D.int 4)))) (mRet ((aCons (b2 dIxA (pure d0) (pure (D.int 0))) (aCons (pure v1) (aCons (pure d0) (aCons (pure d1) aNil)))) D (cB 4 m_accepts_way fun ds _ => ds))) (pure (.nx ()))) fun _ => mRet ((aCons (b2 dIxA (pure d0) (pure (D.int 0))) (aCons (pure v1) (aCons (b2 dIxA (pure d0) (pure (D.int 2))) (aCons (pure d1) aNil)))) D (cB 4 m_accepts_peaks fun ds _ => ds)))
  | _ => stuck
theorem okG_accepts (x : Fx P w K mg base) : ∃ fd, FnG P w K mg base 9 (He.fAd K ("accepts", none)) fd ["claim", "certificate"] (spD (WK K) 2 m_accepts) ∧ FunD K "accepts" "accepts" (defArgs s_accepts) (defBody s_accepts) (defScope s_accepts) [] [] (He.fAd K ("accepts", none)) fd ∧ Binds K fd ["claim", "certificate"] [] := by
  obtain ⟨fd, F, B⟩ := x.d_accepts
  refine ⟨fd, fn_body (n := 2) F sc_accepts rfl fun cdv A fr s H E ds hl b tk hp => ?_, F, B⟩
  match ds, hl with
  | [d0, d1], _ => exact ⟨_, ds_seq (mkT := fun (_ : Unit) => [.d d0, .d d1, .un]) (d1_if (pt_w (pw_or (pt_not (pt_val (pd_isiT x.hK x.g_isinstance x.g_tuple (by decide +kernel) (tbl_T (by decide)) (pd_var (d := d0) 0)))) (pw_or (pt_lt (pd_len x.hK x.g_len (pd_var (d := d0) 0)) pd_int) (pw_or1 (pt_not (pt_val (pd_isiT x.hK x.g_isinstance x.g_str (by decide +kernel) (tbl_T (by decide)) (pd_ixA x.hK (pd_var (d := d0) 0) pd_int)))))))) (ds_last (d1_ret pd_bl)) (ds_nil (s := ()) (.s (.s (.u .n))))) (fun _ => ds_seq (mkT := fun (_ : Unit) => [.d d0, .d d1, .un]) (d1_if (pt_w (pw_or (pt_notInMd x.t_LENGTHS x.tg_LENGTHS (pd_ixA x.hK (pd_var (d := d0) 0) pd_int)) (pw_or1 (pt_ne x.hK b (pd_len x.hK x.g_len (pd_var (d := d0) 0)) (pd_ixMd x.t_LENGTHS x.tg_LENGTHS (pd_ixA x.hK (pd_var (d := d0) 0) pd_int)))))) (ds_last (d1_ret pd_bl)) (ds_nil (s := ()) (.s (.s (.u .n))))) (fun _ => ds_set 2 sc_accepts.nd (dx_e (pd_call ((ok_read_notes x).mono (by decide)) b tk x.f_read_notes (da_cons (pd_ixA x.hK (pd_var (d := d0) 0) pd_int) da_nil))) (fun v1 => ds_seq (mkT := fun (_ : Unit) => [.d d0, .d d1, .d v1]) (d1_if (pt_isN (pd_var (d := v1) 2)) (ds_last (d1_ret pd_bl)) (ds_nil (s := ()) (.s (.s (.s .n))))) (fun _ => ds_seq (mkT := fun (_ : Unit) => [.d d0, .d d1, .d v1]) (d1_if (pt_eq x.hK b (pd_len x.hK x.g_len (pd_var (d := d0) 0)) pd_int) (ds_last (d1_ret (pd_call ((ok_accepts_whole x).mono (by decide)) b tk x.f_accepts_whole (da_cons (pd_ixA x.hK (pd_var (d := d0) 0) pd_int) (da_cons (pd_var (d := v1) 2) (da_cons (pd_var (d := d1) 1) da_nil)))))) (ds_nil (s := ()) (.s (.s (.s .n))))) (fun _ => ds_seq (mkT := fun (_ : Unit) => [.d d0, .d d1, .d v1]) (d1_if (pt_eq x.hK b (pd_len x.hK x.g_len (pd_var (d := d0) 0)) pd_int) (ds_last (d1_ret (pd_call ((ok_accepts_way x).mono (by decide)) b tk x.f_accepts_way (da_cons (pd_ixA x.hK (pd_var (d := d0) 0) pd_int) (da_cons (pd_var (d := v1) 2) (da_cons (pd_var (d := d0) 0) (da_cons (pd_var (d := d1) 1) da_nil))))))) (ds_nil (s := ()) (.s (.s (.s .n))))) (fun _ => ds_last (d1_ret (pd_call ((ok_accepts_peaks x).mono (by decide)) b tk x.f_accepts_peaks (da_cons (pd_ixA x.hK (pd_var (d := d0) 0) pd_int) (da_cons (pd_var (d := v1) 2) (da_cons (pd_ixA x.hK (pd_var (d := d0) 0) pd_int) (da_cons (pd_var (d := d1) 1) da_nil)))))))))))), rfl⟩
theorem ok_accepts (x : Fx P w K mg base) : FnB P w K mg base (WK K) 9 (He.fAd K ("accepts", none)) m_accepts 2 [] fun ds _ => ds := by
  obtain ⟨fd, G, F, B⟩ := okG_accepts x
  exact fnB_all G F B rfl
theorem okK_accepts (x : Fx P w K mg base) : FnB P w K mg base (WK K) 9 (He.fAd K ("accepts", none)) m_accepts 0 ["certificate", "claim"] fun _ es => es.reverse := by
  obtain ⟨fd, G, F, B⟩ := okG_accepts x
  refine fnB_swap G F fun u v => ?_
  obtain ⟨oc, od, dV, kV, doc, pm, an, cdv, ct, osl, e, _, _, hD, _⟩ := F.ex
  rcases hD with ⟨_, rfl⟩ | ⟨h, _⟩
  · subst e
    rfl
  · exact absurd rfl h
theorem sc__law_take : FnScope ["bag", "many", "seed", "high", "digit"] ["bag", "many"] (defScope s__law_take) := ⟨rfl, rfl, rfl, by decide +kernel, rfl, by decide +kernel, by decide +kernel⟩
def m__law_take : List D → M D
  | [d0, d1] => runS (S := Unit) ((b2 dAdd (b2 dIxA (pure d0) (pure (D.int 2))) (pure (D.int 1))) >>= fun d => (pure d0) >>= fun x => (pure (D.int 2)) >>= fun y => iPut x y d >>= fun _ => (aCons (b2 dIxA (pure d0) (pure (D.int 0))) aNil D fInt) >>= fun v1 => (b2 dDiv (pure v1) (pure (D.int 4093))) >>= fun v2 => (b2 dMod (aCons (b2 dAdd (b2 dAdd (b2 dAdd (b2 dMul (pure v1) (pure (D.int 39373))) (b2 dMul (pure v2) (pure v2))) (b2 dMul (pure (D.int 92821)) (b2 dIxA (pure d0) (pure (D.int 2))))) (pure (D.int 5))) aNil D fInt) (pure (D.int 2147483587))) >>= fun d => (pure d0) >>= fun x => (pure (D.int 0)) >>= fun y => iPut x y d >>= fun _ => seqF (T := Unit) (mIf (b1 asB (b2 dGt (b2 dIxA (pure d0) (pure (D.int 1))) (pure (D.int 0)))) ((aCons (b2 dIxA (pure d0) (pure (D.int 1))) (aCons (pure d1) aNil) D fDivmod) >>= un2 fun d1 v3 => (pure d0) >>= fun x => (pure (D.int 1)) >>= fun y => iPut x y d1 >>= fun _ => mRet (pure v3)) (pure (.nx ()))) fun _ => mRet (b2 dMod (aCons (b2 dDiv (b2 dIxA (pure d0) (pure (D.int 0))) (pure (D.int 512))) aNil D fInt) (pure d1)))
  | _ => stuck
theorem okG__law_take (x : Fx P w K mg base) : ∃ fd, FnG P w K mg base 1 (He.fAd K ("_law_take", none)) fd ["bag", "many"] (spD (WK K) 2 m__law_take) ∧ FunD K "_law_take" "_law_take" (defArgs s__law_take) (defBody s__law_take) (defScope s__law_take) [] [] (He.fAd K ("_law_take", none)) fd ∧ Binds K fd ["bag", "many"] [] := by
  obtain ⟨fd, F, B⟩ := x.d__law_take
  refine ⟨fd, fn_body (n := 2) F sc__law_take rfl fun cdv A fr s H E ds hl b tk hp => ?_, F, B⟩
  match ds, hl with
  | [d0, d1], _ => exact ⟨_, ds_put (pd_add x.hK (pd_ixA x.hK (pd_var (d := d0) 0) pd_int) pd_int) (pd_var (d := d0) 0) pd_int (ds_set 2 sc__law_take.nd (dx_e (pd_intOf (pd_ixA x.hK (pd_var (d := d0) 0) pd_int) x.g_int)) (fun v1 => ds_set 3 sc__law_take.nd (dx_e (pd_div (pd_var (d := v1) 2) pd_int)) (fun v2 => ds_put (pd_mod (pd_intOf (pd_add x.hK (pd_add x.hK (pd_add x.hK (pd_mul (pd_var (d := v1) 2) pd_int) (pd_mul (pd_var (d := v2) 3) (pd_var (d := v2) 3))) (pd_mul pd_int (pd_ixA x.hK (pd_var (d := d0) 0) pd_int))) pd_int) x.g_int) pd_int) (pd_var (d := d0) 0) pd_int (ds_seq (mkT := fun (_ : Unit) => [.d d0, .d d1, .d v1, .d v2, .un]) (d1_if (pt_gt (pd_ixA x.hK (pd_var (d := d0) 0) pd_int) pd_int) (ds_put2 4 x.hK rfl sc__law_take.nd (pd_divmodOf (pd_ixA x.hK (pd_var (d := d0) 0) pd_int) (pd_var (d := d1) 1) x.g_divmod) (pd_var (d := d0) 0) pd_int (fun v3 => ds_last (d1_ret (pd_var (d := v3) 4)))) (ds_nil (s := ()) (.s (.s (.s (.s (.u .n))))))) (fun _ => ds_last (d1_ret (pd_mod (pd_intOf (pd_div (pd_ixA x.hK (pd_var (d := d0) 0) pd_int) pd_int) x.g_int) (pd_var (d := d1) 1)))))))), rfl⟩
theorem ok__law_take (x : Fx P w K mg base) : FnB P w K mg base (WK K) 1 (He.fAd K ("_law_take", none)) m__law_take 2 [] fun ds _ => ds := by
  obtain ⟨fd, G, F, B⟩ := okG__law_take x
  exact fnB_all G F B rfl
theorem sc__law_of : FnScope ["bag", "things"] ["bag", "things"] (defScope s__law_of) := ⟨rfl, rfl, rfl, by decide +kernel, rfl, by decide +kernel, by decide +kernel⟩
def m__law_of : List D → M D
  | [d0, d1] => runS (S := Unit) (mRet (b2 dIxA (pure d1) ((aCons (pure d0) (aCons (aCons (pure d1) aNil D dLen) aNil)) D (cB 2 m__law_take fun ds _ => ds))))
  | _ => stuck
theorem okG__law_of (x : Fx P w K mg base) : ∃ fd, FnG P w K mg base 2 (He.fAd K ("_law_of", none)) fd ["bag", "things"] (spD (WK K) 2 m__law_of) ∧ FunD K "_law_of" "_law_of" (defArgs s__law_of) (defBody s__law_of) (defScope s__law_of) [] [] (He.fAd K ("_law_of", none)) fd ∧ Binds K fd ["bag", "things"] [] := by
  obtain ⟨fd, F, B⟩ := x.d__law_of
  refine ⟨fd, fn_body (n := 2) F sc__law_of rfl fun cdv A fr s H E ds hl b tk hp => ?_, F, B⟩
  match ds, hl with
  | [d0, d1], _ => exact ⟨_, ds_last (d1_ret (pd_ixA x.hK (pd_var (d := d1) 1) (pd_call ((ok__law_take x).mono (by decide)) b tk x.f__law_take (da_cons (pd_var (d := d0) 0) (da_cons (pd_len x.hK x.g_len (pd_var (d := d1) 1)) da_nil))))), rfl⟩
theorem ok__law_of (x : Fx P w K mg base) : FnB P w K mg base (WK K) 2 (He.fAd K ("_law_of", none)) m__law_of 2 [] fun ds _ => ds := by
  obtain ⟨fd, G, F, B⟩ := okG__law_of x
  exact fnB_all G F B rfl
theorem sc__law_spread : FnScope ["text_here", "found", "size", "fresh", "begun", "stand"] ["text_here"] (defScope s__law_spread) := ⟨rfl, rfl, rfl, by decide +kernel, rfl, by decide +kernel, by decide +kernel⟩
def m__law_spread : List D → M D
  | [d0] => runS (S := Unit) (((aCons (pure (D.str ("" : Str))) aNil) D dLst) >>= fun v1 => seqF (T := D) ((b1 items (pure d0)) >>= fun ds => forD (S := D) (fun s2 d => on1 (fun c3 => (aNil D dLst) >>= fun v4 => seqF (T := D) ((b1 items (pure s2)) >>= fun ds => forD (S := D) (fun s5 d => on1 (fun c6 => (b2 dAdd (pure s5) (mLst ((b1 items (mSl (pure (D.str ("012" : Str))) (pure none) (b1 asI (aCons (pure c3) aNil D fInt)))) >>= fun ds => lcD (fun d => on1 (lcB (fun c8 => pure true) (fun c8 => b2 dAdd (pure c6) (pure c8))) d) ds []))) >>= fun v7 => pure (.nx v7)) d) ds v4) fun s5 => (pure s5) >>= fun v9 => pure (.nx v9)) d) ds v1) fun s2 => mRet (pure s2))
  | _ => stuck
theorem okG__law_spread (x : Fx P w K mg base) : ∃ fd, FnG P w K mg base 1 (He.fAd K ("_law_spread", none)) fd ["text_here"] (spD (WK K) 1 m__law_spread) ∧ FunD K "_law_spread" "_law_spread" (defArgs s__law_spread) (defBody s__law_spread) (defScope s__law_spread) [] [] (He.fAd K ("_law_spread", none)) fd ∧ Binds K fd ["text_here"] [] := by
  obtain ⟨fd, F, B⟩ := x.d__law_spread
  refine ⟨fd, fn_body (n := 1) F sc__law_spread rfl fun cdv A fr s H E ds hl b tk hp => ?_, F, B⟩
  match ds, hl with
  | [d0], _ => exact ⟨_, ds_set 1 sc__law_spread.nd (dx_e (pd_lst (da_cons pd_str da_nil))) (fun v1 => ds_seq (mkT := fun (s2 : D) => [.d d0, .d s2, .un, .un, .un, .un]) (d1_for (S := D) (mk := fun (s2 : D) => [.d d0, .d s2, .un, .un, .un, .un]) (s0 := v1) x.hK hp rfl (di_of x.hK (pd_var (d := d0) 0)) (tg1 2 sc__law_spread.nd) (.s (.s (.u (.u (.u (.u .n)))))) (fun s2 c3 => ds_set 3 sc__law_spread.nd (dx_e (pd_lst da_nil)) (fun v4 => ds_seq (mkT := fun (s5 : D) => [.d d0, .d s2, .d c3, .d s5, .un, .un]) (d1_for (S := D) (mk := fun (s5 : D) => [.d d0, .d s2, .d c3, .d s5, .un, .un]) (s0 := v4) x.hK hp rfl (di_of x.hK (pd_var (d := s2) 1)) (tg1 4 sc__law_spread.nd) (.s (.s (.s (.s (.u (.u .n)))))) (fun s5 c6 => ds_set 3 sc__law_spread.nd (dx_e (pd_add x.hK (pd_var (d := s5) 3) (pd_new (pn_lc x.hK rfl sc__law_spread.nd (dj_of (di_of x.hK (pd_sl x.hK pd_str do_none (do_some (pd_intOf (pd_var (d := c3) 2) x.g_int))))) (own := [("stand", 5)]) (blk_of (by rfl)) (fun s H C cl fp => tg1 5 sc__law_spread.nd) (fun s H C cl fp c8 => ts_nil) (fun s H C cl fp c8 => pd_add x.hK (pd_var (d := c6) 4) (pd_var (d := c8) 5)))))) (fun v7 => ds_nil (s := v7) (.s (.s (.s (.s (.u (.u .n)))))))) (fun k l d => on1_bind k l d)) (fun s5 => ds_set 1 sc__law_spread.nd (dx_e (pd_var (d := s5) 3)) (fun v9 => ds_nil (s := v9) (.s (.s (.u (.u (.u (.u .n)))))))))) (fun k l d => on1_bind k l d)) (fun s2 => ds_last (d1_ret (pd_var (d := s2) 1)))), rfl⟩
theorem ok__law_spread (x : Fx P w K mg base) : FnB P w K mg base (WK K) 1 (He.fAd K ("_law_spread", none)) m__law_spread 1 [] fun ds _ => ds := by
  obtain ⟨fd, G, F, B⟩ := okG__law_spread x
  exact fnB_all G F B rfl
theorem sc__law_mixed : FnScope ["bag", "things", "left_here", "found", "k"] ["bag", "things"] (defScope s__law_mixed) := ⟨rfl, rfl, rfl, by decide +kernel, rfl, by decide +kernel, by decide +kernel⟩
def m__law_mixed : List D → M D
  | [d0, d1] => runS (S := Unit) (mTwo (b1 qList (b1 asQ (pure d1))) (aNil (List D) nLst) fun v1 v2 => seqF (T := List D × List D) (((aCons (b1 qLen (pure (false, v1))) aNil) (List D) fRange1) >>= fun ds => forD (S := List D × List D) (fun s3 d => on1 (fun c4 => mAppPop ((aCons (pure d0) (aCons (b1 qLen (pure (false, s3.2))) aNil)) D (cB 2 m__law_take fun ds _ => ds)) s3.1 s3.2 fun v5 v6 => pure (.nx (v5, v6))) d) ds (v2, v1)) fun s3 => mRet (pure (D.lst s3.1)))
  | _ => stuck
theorem okG__law_mixed (x : Fx P w K mg base) : ∃ fd, FnG P w K mg base 2 (He.fAd K ("_law_mixed", none)) fd ["bag", "things"] (spD (WK K) 2 m__law_mixed) ∧ FunD K "_law_mixed" "_law_mixed" (defArgs s__law_mixed) (defBody s__law_mixed) (defScope s__law_mixed) [] [] (He.fAd K ("_law_mixed", none)) fd ∧ Binds K fd ["bag", "things"] [] := by
  obtain ⟨fd, F, B⟩ := x.d__law_mixed
  refine ⟨fd, fn_body (n := 2) F sc__law_mixed rfl fun cdv A fr s H E ds hl b tk hp => ?_, F, B⟩
  match ds, hl with
  | [d0, d1], _ => exact ⟨_, ds_par 2 3 rfl sc__law_mixed.nd (dx_n (pn_list x.hK x.g_list (pq_of (pd_var (d := d1) 1)))) (dx_n (pn_lst da_nil)) (fun v1 v2 => ds_seq (mkT := fun (s3 : List D × List D) => [.d d0, .d d1, .ol s3.2, .ol s3.1, .un]) (d1_for (S := List D × List D) (mk := fun (s3 : List D × List D) => [.d d0, .d d1, .ol s3.2, .ol s3.1, .un]) (s0 := (v2, v1)) x.hK hp rfl (di_range1 x.g_range (da_cons (pd_lenq x.hK x.g_len (pq_var (xs := v1) 2)) da_nil)) (tg1 4 sc__law_mixed.nd) (.s (.s (.s (.s (.u .n))))) (fun s3 c4 => ds_appPop (xs := s3.1) (ys := s3.2) 3 2 (by decide) rfl rfl (pd_call ((ok__law_take x).mono (by decide)) b tk x.f__law_take (da_cons (pd_var (d := d0) 0) (da_cons (pd_lenq x.hK x.g_len (pq_var (xs := s3.2) 2)) da_nil))) (fun v5 v6 => ds_nil (s := (v5, v6)) (.s (.s (.s (.s (.u .n)))))) (fun {t r} h k => pe_bm PySem.F.plainAttrs_list PySem.F.slot_list_append PySem.F.type_list_append h (pv 3) (pa_cons k pa_nil)) (fun {t r} h k => pe_bm PySem.F.plainAttrs_list PySem.F.slot_list_pop PySem.F.type_list_pop h (pv 2) (pa_cons k pa_nil))) (fun k l d => on1_bind k l d)) (fun s3 => ds_froz (xs := s3.1) 3 rfl (ds_last (d1_ret (pd_var (d := D.lst s3.1) 3))))), rfl⟩
theorem ok__law_mixed (x : Fx P w K mg base) : FnB P w K mg base (WK K) 2 (He.fAd K ("_law_mixed", none)) m__law_mixed 2 [] fun ds _ => ds := by
  obtain ⟨fd, G, F, B⟩ := okG__law_mixed x
  exact fnB_all G F B rfl
theorem sc__law_apart : FnScope ["one", "two", "k"] ["one", "two"] (defScope s__law_apart) := ⟨rfl, rfl, rfl, by decide +kernel, rfl, by decide +kernel, by decide +kernel⟩
def m__law_apart : List D → M D
  | [d0, d1] => runS (S := Unit) (mRet (aCons (mLst (((aCons (aCons (pure d0) aNil D dLen) aNil) (List D) fRange1) >>= fun ds => lcD (fun d => on1 (lcB (fun c1 => b1 asB (b2 dNe (b2 dIxA (pure d0) (pure c1)) (b2 dIxA (pure d1) (pure c1)))) (fun c1 => pure c1)) d) ds [])) aNil D dLen))
  | _ => stuck
theorem okG__law_apart (x : Fx P w K mg base) : ∃ fd, FnG P w K mg base 1 (He.fAd K ("_law_apart", none)) fd ["one", "two"] (spD (WK K) 2 m__law_apart) ∧ FunD K "_law_apart" "_law_apart" (defArgs s__law_apart) (defBody s__law_apart) (defScope s__law_apart) [] [] (He.fAd K ("_law_apart", none)) fd ∧ Binds K fd ["one", "two"] [] := by
  obtain ⟨fd, F, B⟩ := x.d__law_apart
  refine ⟨fd, fn_body (n := 2) F sc__law_apart rfl fun cdv A fr s H E ds hl b tk hp => ?_, F, B⟩
  match ds, hl with
  | [d0, d1], _ => exact ⟨_, ds_last (d1_ret (pd_len x.hK x.g_len (pd_new (pn_lc x.hK rfl sc__law_apart.nd (dj_of (di_range1 x.g_range (da_cons (pd_len x.hK x.g_len (pd_var (d := d0) 0)) da_nil))) (own := [("k", 2)]) (blk_of (by rfl)) (fun s H C cl fp => tg1 2 sc__law_apart.nd) (fun s H C cl fp c1 => ts_one (pt_ne x.hK ⟨b.rm, b.gd⟩ (pd_ixA x.hK (pd_var (d := d0) 0) (pd_var (d := c1) 2)) (pd_ixA x.hK (pd_var (d := d1) 1) (pd_var (d := c1) 2)))) (fun s H C cl fp c1 => pd_var (d := c1) 2))))), rfl⟩
theorem ok__law_apart (x : Fx P w K mg base) : FnB P w K mg base (WK K) 1 (He.fAd K ("_law_apart", none)) m__law_apart 2 [] fun ds _ => ds := by
  obtain ⟨fd, G, F, B⟩ := okG__law_apart x
  exact fnB_all G F B rfl
theorem sc__law_seen : FnScope ["bag", "line", "share", "found", "k", "low"] ["bag", "line"] (defScope s__law_seen) := ⟨rfl, rfl, rfl, by decide +kernel, rfl, by decide +kernel, by decide +kernel⟩
def m__law_seen : List D → M D
  | [d0, d1] => runS (S := Unit) (mTwo ((aCons (pure d0) (aCons ((aCons (pure (D.int 1)) (aCons (pure (D.int 2)) (aCons (pure (D.int 3)) (aCons (pure (D.int 4)) (aCons (pure (D.int 5)) aNil))))) D dLst) aNil)) D (cB 2 m__law_of fun ds _ => ds)) (aNil (List D) nLst) fun v1 v2 => seqF (T := List D) (((aCons (aCons (pure d1) aNil D dLen) aNil) (List D) fRange1) >>= fun ds => forD (S := List D) (fun s3 d => on1 (fun c4 => seqF (T := List D) ((b1 items (mSl (pure d1) (pure none) (b1 asI (pure c4)))) >>= fun ds => forD (S := List D) (fun s5 d => on1 (fun c6 => mIf (mAnd (b1 asB (b2 dEq ((aCons (pure c6) (aCons (b2 dIxA (pure d1) (pure c4)) aNil)) D (cB 2 m__law_apart fun ds _ => ds)) (pure (D.int 1)))) (b1 asB (b2 dLt ((aCons (pure d0) (aCons (pure (D.int 5)) aNil)) D (cB 2 m__law_take fun ds _ => ds)) (pure v1)))) (mApp ((aCons (pure c6) (aCons (b2 dIxA (pure d1) (pure c4)) aNil)) D dTup) s5 fun v7 => pure (.nx (s5 ++ [v7]))) (pure (.nx s5))) d) ds s3) fun s5 => pure (.nx s5)) d) ds v2) fun s3 => mRet (aCons ((aCons (pure d0) (aCons (pure (D.lst s3)) aNil)) D (cB 2 m__law_mixed fun ds _ => ds)) aNil D cTuple))
  | _ => stuck
theorem okG__law_seen (x : Fx P w K mg base) : ∃ fd, FnG P w K mg base 3 (He.fAd K ("_law_seen", none)) fd ["bag", "line"] (spD (WK K) 2 m__law_seen) ∧ FunD K "_law_seen" "_law_seen" (defArgs s__law_seen) (defBody s__law_seen) (defScope s__law_seen) [] [] (He.fAd K ("_law_seen", none)) fd ∧ Binds K fd ["bag", "line"] [] := by
  obtain ⟨fd, F, B⟩ := x.d__law_seen
  refine ⟨fd, fn_body (n := 2) F sc__law_seen rfl fun cdv A fr s H E ds hl b tk hp => ?_, F, B⟩
  match ds, hl with
  | [d0, d1], _ => exact ⟨_, ds_par 2 3 rfl sc__law_seen.nd (dx_e (pd_call ((ok__law_of x).mono (by decide)) b tk x.f__law_of (da_cons (pd_var (d := d0) 0) (da_cons (pd_lst (da_cons pd_int (da_cons pd_int (da_cons pd_int (da_cons pd_int (da_cons pd_int da_nil)))))) da_nil)))) (dx_n (pn_lst da_nil)) (fun v1 v2 => ds_seq (mkT := fun (s3 : List D) => [.d d0, .d d1, .d v1, .ol s3, .un, .un]) (d1_for (S := List D) (mk := fun (s3 : List D) => [.d d0, .d d1, .d v1, .ol s3, .un, .un]) (s0 := v2) x.hK hp rfl (di_range1 x.g_range (da_cons (pd_len x.hK x.g_len (pd_var (d := d1) 1)) da_nil)) (tg1 4 sc__law_seen.nd) (.s (.s (.s (.s (.u (.u .n)))))) (fun s3 c4 => ds_seq (mkT := fun (s5 : List D) => [.d d0, .d d1, .d v1, .ol s5, .d c4, .un]) (d1_for (S := List D) (mk := fun (s5 : List D) => [.d d0, .d d1, .d v1, .ol s5, .d c4, .un]) (s0 := s3) x.hK hp rfl (di_of x.hK (pd_sl x.hK (pd_var (d := d1) 1) do_none (do_some (pd_var (d := c4) 4)))) (tg1 5 sc__law_seen.nd) (.s (.s (.s (.s (.s (.u .n)))))) (fun s5 c6 => ds_last (d1_if (pt_w (pw_and (pt_eq x.hK b (pd_call ((ok__law_apart x).mono (by decide)) b tk x.f__law_apart (da_cons (pd_var (d := c6) 5) (da_cons (pd_ixA x.hK (pd_var (d := d1) 1) (pd_var (d := c4) 4)) da_nil))) pd_int) (pw_and1 (pt_lt (pd_call ((ok__law_take x).mono (by decide)) b tk x.f__law_take (da_cons (pd_var (d := d0) 0) (da_cons pd_int da_nil))) (pd_var (d := v1) 2))))) (ds_append (xs := s5) 3 rfl (pd_tup (da_cons (pd_var (d := c6) 5) (da_cons (pd_ixA x.hK (pd_var (d := d1) 1) (pd_var (d := c4) 4)) da_nil))) (fun v7 => ds_nil (s := (s5 ++ [v7])) (.s (.s (.s (.s (.s (.u .n))))))) (pv 3) (hb := (fun {t r} h k => pe_bm PySem.F.plainAttrs_list PySem.F.slot_list_append PySem.F.type_list_append h (pv 3) (pa_cons k pa_nil)))) (ds_nil (s := s5) (.s (.s (.s (.s (.s (.u .n))))))))) (fun k l d => on1_bind k l d)) (fun s5 => ds_nil (s := s5) (.s (.s (.s (.s (.u (.u .n)))))))) (fun k l d => on1_bind k l d)) (fun s3 => ds_froz (xs := s3) 3 rfl (ds_last (d1_ret (pd_tuple x.hK x.g_tuple (pd_call ((ok__law_mixed x).mono (by decide)) b tk x.f__law_mixed (da_cons (pd_var (d := d0) 0) (da_cons (pd_var (d := D.lst s3) 3) da_nil)))))))), rfl⟩
theorem ok__law_seen (x : Fx P w K mg base) : FnB P w K mg base (WK K) 3 (He.fAd K ("_law_seen", none)) m__law_seen 2 [] fun ds _ => ds := by
  obtain ⟨fd, G, F, B⟩ := okG__law_seen x
  exact fnB_all G F B rfl
theorem sc__law_world : FnScope ["bag", "menu", "text_here", "all_here", "line"] ["bag", "menu"] (defScope s__law_world) := ⟨rfl, rfl, rfl, by decide +kernel, rfl, by decide +kernel, by decide +kernel⟩
def m__law_world : List D → M D
  | [d0, d1] => runS (S := Unit) (((aCons (pure d0) (aCons (pure d1) aNil)) D (cB 2 m__law_of fun ds _ => ds)) >>= fun v1 => ((aCons (pure v1) aNil) D (cB 1 m__law_spread fun ds _ => ds)) >>= fun v2 => ((aCons (pure d0) (aCons (pure v2) aNil)) D (cB 2 m__law_mixed fun ds _ => ds)) >>= fun v3 => mRet ((aCons (pure v1) (aCons (pure v2) (aCons (pure v3) (aCons ((aCons (pure d0) (aCons (pure v3) aNil)) D (cB 2 m__law_seen fun ds _ => ds)) aNil)))) D dTup))
  | _ => stuck
theorem okG__law_world (x : Fx P w K mg base) : ∃ fd, FnG P w K mg base 4 (He.fAd K ("_law_world", none)) fd ["bag", "menu"] (spD (WK K) 2 m__law_world) ∧ FunD K "_law_world" "_law_world" (defArgs s__law_world) (defBody s__law_world) (defScope s__law_world) [] [] (He.fAd K ("_law_world", none)) fd ∧ Binds K fd ["bag", "menu"] [] := by
  obtain ⟨fd, F, B⟩ := x.d__law_world
  refine ⟨fd, fn_body (n := 2) F sc__law_world rfl fun cdv A fr s H E ds hl b tk hp => ?_, F, B⟩
  match ds, hl with
  | [d0, d1], _ => exact ⟨_, ds_set 2 sc__law_world.nd (dx_e (pd_call ((ok__law_of x).mono (by decide)) b tk x.f__law_of (da_cons (pd_var (d := d0) 0) (da_cons (pd_var (d := d1) 1) da_nil)))) (fun v1 => ds_set 3 sc__law_world.nd (dx_e (pd_call ((ok__law_spread x).mono (by decide)) b tk x.f__law_spread (da_cons (pd_var (d := v1) 2) da_nil))) (fun v2 => ds_set 4 sc__law_world.nd (dx_e (pd_call ((ok__law_mixed x).mono (by decide)) b tk x.f__law_mixed (da_cons (pd_var (d := d0) 0) (da_cons (pd_var (d := v2) 3) da_nil)))) (fun v3 => ds_last (d1_ret (pd_tup (da_cons (pd_var (d := v1) 2) (da_cons (pd_var (d := v2) 3) (da_cons (pd_var (d := v3) 4) (da_cons (pd_call ((ok__law_seen x).mono (by decide)) b tk x.f__law_seen (da_cons (pd_var (d := d0) 0) (da_cons (pd_var (d := v3) 4) da_nil))) da_nil))))))))), rfl⟩
theorem ok__law_world (x : Fx P w K mg base) : FnB P w K mg base (WK K) 4 (He.fAd K ("_law_world", none)) m__law_world 2 [] fun ds _ => ds := by
  obtain ⟨fd, G, F, B⟩ := okG__law_world x
  exact fnB_all G F B rfl
theorem sc__law_sheet : FnScope ["text_here", "seen_here", "low", "high"] ["text_here", "seen_here"] (defScope s__law_sheet) := ⟨rfl, rfl, rfl, by decide +kernel, rfl, by decide +kernel, by decide +kernel⟩
def m__law_sheet : List D → M D
  | [d0, d1] => runS (S := Unit) (mRet ((pure (D.str ("\n" : Str))) >>= kJoin (b2 dAdd ((aCons (b2 dAdd (pure (D.str ("board " : Str))) (pure d0)) aNil) D dLst) (mLst ((b1 items (pure d1)) >>= fun ds => lcD (fun d => on2 (lcB (fun c1 => pure true) (fun c1 => b2 dAdd (b2 dAdd (pure c1.1) (pure (D.str (" < " : Str)))) (pure c1.2))) d) ds [])))))
  | _ => stuck
theorem okG__law_sheet (x : Fx P w K mg base) : ∃ fd, FnG P w K mg base 1 (He.fAd K ("_law_sheet", none)) fd ["text_here", "seen_here"] (spD (WK K) 2 m__law_sheet) ∧ FunD K "_law_sheet" "_law_sheet" (defArgs s__law_sheet) (defBody s__law_sheet) (defScope s__law_sheet) [] [] (He.fAd K ("_law_sheet", none)) fd ∧ Binds K fd ["text_here", "seen_here"] [] := by
  obtain ⟨fd, F, B⟩ := x.d__law_sheet
  refine ⟨fd, fn_body (n := 2) F sc__law_sheet rfl fun cdv A fr s H E ds hl b tk hp => ?_, F, B⟩
  match ds, hl with
  | [d0, d1], _ => exact ⟨_, ds_last (d1_ret (pd_join x.hK pd_str (pd_add x.hK (pd_lst (da_cons (pd_add x.hK pd_str (pd_var (d := d0) 0)) da_nil)) (pd_new (pn_lc x.hK rfl sc__law_sheet.nd (dj_of (di_of x.hK (pd_var (d := d1) 1))) (own := [("low", 2), ("high", 3)]) (blk_of (by rfl)) (fun s H C cl fp => tg2K K rfl 2 3 rfl rfl sc__law_sheet.nd) (fun s H C cl fp c1 => ts_nil) (fun s H C cl fp c1 => pd_add x.hK (pd_add x.hK (pd_var (d := c1.1) 2) pd_str) (pd_var (d := c1.2) 3))))))), rfl⟩
theorem ok__law_sheet (x : Fx P w K mg base) : FnB P w K mg base (WK K) 1 (He.fAd K ("_law_sheet", none)) m__law_sheet 2 [] fun ds _ => ds := by
  obtain ⟨fd, G, F, B⟩ := okG__law_sheet x
  exact fnB_all G F B rfl
theorem sc__law_lines : FnScope ["all_here", "seen_here", "found", "turn", "fresh", "begun", "each", "waits", "low", "high"] ["all_here", "seen_here"] (defScope s__law_lines) := ⟨rfl, rfl, rfl, by decide +kernel, rfl, by decide +kernel, by decide +kernel⟩
def m__law_lines : List D → M D
  | [d0, d1] => runS (S := Unit) (((aCons (aNil D dLst) aNil) D dLst) >>= fun v1 => seqF (T := D) (((aCons (aCons (pure d0) aNil D dLen) aNil) (List D) fRange1) >>= fun ds => forD (S := D) (fun s2 d => on1 (fun c3 => (aNil (List D) nLst) >>= fun v4 => seqF (T := List D) ((b1 items (pure s2)) >>= fun ds => forD (S := List D) (fun s5 d => on1 (fun c6 => seqF (T := List D) ((b1 items (pure d0)) >>= fun ds => forD (S := List D) (fun s7 d => on1 (fun c8 => ((b1 items (pure d1)) >>= fun ds => lcD (fun d => on2 (lcB (fun c9 => mAnd (b1 asB (b2 dEq (pure c9.2) (pure c8))) (b1 asB (b2 dNotIn (pure c9.1) (pure c6)))) (fun c9 => pure c9.1)) d) ds []) >>= fun v10 => mIf (mAnd (b1 asB (b2 dNotIn (pure c8) (pure c6))) (b1 asB (b2 dEq (pure (D.lst v10)) (aNil D dLst)))) (mApp (b2 dAdd (pure c6) ((aCons (pure c8) aNil) D dLst)) s7 fun v11 => pure (.nx (s7 ++ [v11]))) (pure (.nx s7))) d) ds s5) fun s7 => pure (.nx s7)) d) ds v4) fun s5 => (pure (D.lst s5)) >>= fun v13 => pure (.nx v13)) d) ds v1) fun s2 => mRet (pure s2))
  | _ => stuck
theorem okG__law_lines (x : Fx P w K mg base) : ∃ fd, FnG P w K mg base 1 (He.fAd K ("_law_lines", none)) fd ["all_here", "seen_here"] (spD (WK K) 2 m__law_lines) ∧ FunD K "_law_lines" "_law_lines" (defArgs s__law_lines) (defBody s__law_lines) (defScope s__law_lines) [] [] (He.fAd K ("_law_lines", none)) fd ∧ Binds K fd ["all_here", "seen_here"] [] := by
  obtain ⟨fd, F, B⟩ := x.d__law_lines
  refine ⟨fd, fn_body (n := 2) F sc__law_lines rfl fun cdv A fr s H E ds hl b tk hp => ?_, F, B⟩
  match ds, hl with
  | [d0, d1], _ => exact ⟨_, ds_set 2 sc__law_lines.nd (dx_e (pd_lst (da_cons (pd_lst da_nil) da_nil))) (fun v1 => ds_seq (mkT := fun (s2 : D) => [.d d0, .d d1, .d s2, .un, .un, .un, .un, .un, .un, .un]) (d1_for (S := D) (mk := fun (s2 : D) => [.d d0, .d d1, .d s2, .un, .un, .un, .un, .un, .un, .un]) (s0 := v1) x.hK hp rfl (di_range1 x.g_range (da_cons (pd_len x.hK x.g_len (pd_var (d := d0) 0)) da_nil)) (tg1 3 sc__law_lines.nd) (.s (.s (.s (.u (.u (.u (.u (.u (.u (.u .n)))))))))) (fun s2 c3 => ds_set 4 sc__law_lines.nd (dx_n (pn_lst da_nil)) (fun v4 => ds_seq (mkT := fun (s5 : List D) => [.d d0, .d d1, .d s2, .d c3, .ol s5, .un, .un, .un, .un, .un]) (d1_for (S := List D) (mk := fun (s5 : List D) => [.d d0, .d d1, .d s2, .d c3, .ol s5, .un, .un, .un, .un, .un]) (s0 := v4) x.hK hp rfl (di_of x.hK (pd_var (d := s2) 2)) (tg1 5 sc__law_lines.nd) (.s (.s (.s (.s (.s (.u (.u (.u (.u (.u .n)))))))))) (fun s5 c6 => ds_seq (mkT := fun (s7 : List D) => [.d d0, .d d1, .d s2, .d c3, .ol s7, .d c6, .un, .un, .un, .un]) (d1_for (S := List D) (mk := fun (s7 : List D) => [.d d0, .d d1, .d s2, .d c3, .ol s7, .d c6, .un, .un, .un, .un]) (s0 := s5) x.hK hp rfl (di_of x.hK (pd_var (d := d0) 0)) (tg1 6 sc__law_lines.nd) (.s (.s (.s (.s (.s (.s (.u (.u (.u (.u .n)))))))))) (fun s7 c8 => ds_setLc 7 x.hK rfl sc__law_lines.nd (dj_of (di_of x.hK (pd_var (d := d1) 1))) (own := [("low", 8), ("high", 9)]) (blk_of (by rfl)) (fun s H C cl fp => tg2K K rfl 8 9 rfl rfl sc__law_lines.nd) (fun s H C cl fp c9 => ts_one (pt_w (pw_and (pt_eq x.hK ⟨b.rm, b.gd⟩ (pd_var (d := c9.2) 9) (pd_var (d := c8) 6)) (pw_and1 (pt_notIn x.hK ⟨b.rm, b.gd⟩ (pd_var (d := c9.1) 8) (pd_var (d := c6) 5)))))) (fun s H C cl fp c9 => pd_var (d := c9.1) 8) (fun v10 => ds_froz (xs := v10) 7 rfl (ds_last (d1_if (pt_w (pw_and (pt_notIn x.hK b (pd_var (d := c8) 6) (pd_var (d := c6) 5)) (pw_and1 (pt_eq x.hK b (pd_var (d := D.lst v10) 7) (pd_lst da_nil))))) (ds_append (xs := s7) 4 rfl (pd_add x.hK (pd_var (d := c6) 5) (pd_lst (da_cons (pd_var (d := c8) 6) da_nil))) (fun v11 => ds_nil (s := (s7 ++ [v11])) (.s (.s (.s (.s (.s (.s (.u (.u (.u (.u .n))))))))))) (pv 4) (hb := (fun {t r} h k => pe_bm PySem.F.plainAttrs_list PySem.F.slot_list_append PySem.F.type_list_append h (pv 4) (pa_cons k pa_nil)))) (ds_nil (s := s7) (.s (.s (.s (.s (.s (.s (.u (.u (.u (.u .n)))))))))))))) (sw_true rfl rfl rfl (by decide +kernel))) (fun k l d => on1_bind k l d)) (fun s7 => ds_nil (s := s7) (.s (.s (.s (.s (.s (.u (.u (.u (.u (.u .n)))))))))))) (fun k l d => on1_bind k l d)) (fun s5 => ds_froz (xs := s5) 4 rfl (ds_set 2 sc__law_lines.nd (dx_e (pd_var (d := D.lst s5) 4)) (fun v13 => ds_nil (s := v13) (.s (.s (.s (.u (.u (.u (.u (.u (.u (.u .n))))))))))))))) (fun k l d => on1_bind k l d)) (fun s2 => ds_last (d1_ret (pd_var (d := s2) 2)))), rfl⟩
theorem ok__law_lines (x : Fx P w K mg base) : FnB P w K mg base (WK K) 1 (He.fAd K ("_law_lines", none)) m__law_lines 2 [] fun ds _ => ds := by
  obtain ⟨fd, G, F, B⟩ := okG__law_lines x
  exact fnB_all G F B rfl
theorem sc__law_near : FnScope ["all_here", "one", "each"] ["all_here", "one"] (defScope s__law_near) := ⟨rfl, rfl, rfl, by decide +kernel, rfl, by decide +kernel, by decide +kernel⟩
def m__law_near : List D → M D
  | [d0, d1] => runS (S := Unit) (mRet (mLst ((b1 items (pure d0)) >>= fun ds => lcD (fun d => on1 (lcB (fun c1 => b1 asB (b2 dEq ((aCons (pure c1) (aCons (pure d1) aNil)) D (cB 2 m__law_apart fun ds _ => ds)) (pure (D.int 1)))) (fun c1 => pure c1)) d) ds [])))
  | _ => stuck
theorem okG__law_near (x : Fx P w K mg base) : ∃ fd, FnG P w K mg base 2 (He.fAd K ("_law_near", none)) fd ["all_here", "one"] (spD (WK K) 2 m__law_near) ∧ FunD K "_law_near" "_law_near" (defArgs s__law_near) (defBody s__law_near) (defScope s__law_near) [] [] (He.fAd K ("_law_near", none)) fd ∧ Binds K fd ["all_here", "one"] [] := by
  obtain ⟨fd, F, B⟩ := x.d__law_near
  refine ⟨fd, fn_body (n := 2) F sc__law_near rfl fun cdv A fr s H E ds hl b tk hp => ?_, F, B⟩
  match ds, hl with
  | [d0, d1], _ => exact ⟨_, ds_last (d1_ret (pd_new (pn_lc x.hK rfl sc__law_near.nd (dj_of (di_of x.hK (pd_var (d := d0) 0))) (own := [("each", 2)]) (blk_of (by rfl)) (fun s H C cl fp => tg1 2 sc__law_near.nd) (fun s H C cl fp c1 => ts_one (pt_eq x.hK ⟨b.rm, b.gd⟩ (pd_call ((ok__law_apart x).mono (by decide)) ⟨b.rm, b.gd⟩ takes0 x.f__law_apart (da_cons (pd_var (d := c1) 2) (da_cons (pd_var (d := d1) 1) da_nil))) pd_int)) (fun s H C cl fp c1 => pd_var (d := c1) 2)))), rfl⟩
theorem ok__law_near (x : Fx P w K mg base) : FnB P w K mg base (WK K) 2 (He.fAd K ("_law_near", none)) m__law_near 2 [] fun ds _ => ds := by
  obtain ⟨fd, G, F, B⟩ := okG__law_near x
  exact fnB_all G F B rfl
theorem sc__law_tops : FnScope ["line", "lot", "found", "each", "mate"] ["line", "lot"] (defScope s__law_tops) := ⟨rfl, rfl, rfl, by decide +kernel, rfl, by decide +kernel, by decide +kernel⟩
def m__law_tops : List D → M D
  | [d0, d1] => runS (S := Unit) ((aNil (List D) nLst) >>= fun v1 => seqF (T := List D) ((b1 items (pure d1)) >>= fun ds => forD (S := List D) (fun s2 d => on1 (fun c3 => mIf (b1 asB (aCons (mLst ((b1 items ((aCons (pure d1) (aCons (pure c3) aNil)) D (cB 2 m__law_near fun ds _ => ds))) >>= fun ds => lcD (fun d => on1 (lcB (fun c4 => pure true) (fun c4 => b2 dLt ((pure d0) >>= kIndex (pure c4)) ((pure d0) >>= kIndex (pure c3)))) d) ds [])) aNil D fAll)) (mApp (pure c3) s2 fun v5 => pure (.nx (s2 ++ [v5]))) (pure (.nx s2))) d) ds v1) fun s2 => mRet (pure (D.lst s2)))
  | _ => stuck
theorem okG__law_tops (x : Fx P w K mg base) : ∃ fd, FnG P w K mg base 3 (He.fAd K ("_law_tops", none)) fd ["line", "lot"] (spD (WK K) 2 m__law_tops) ∧ FunD K "_law_tops" "_law_tops" (defArgs s__law_tops) (defBody s__law_tops) (defScope s__law_tops) [] [] (He.fAd K ("_law_tops", none)) fd ∧ Binds K fd ["line", "lot"] [] := by
  obtain ⟨fd, F, B⟩ := x.d__law_tops
  refine ⟨fd, fn_body (n := 2) F sc__law_tops rfl fun cdv A fr s H E ds hl b tk hp => ?_, F, B⟩
  match ds, hl with
  | [d0, d1], _ => exact ⟨_, ds_set 2 sc__law_tops.nd (dx_n (pn_lst da_nil)) (fun v1 => ds_seq (mkT := fun (s2 : List D) => [.d d0, .d d1, .ol s2, .un, .un]) (d1_for (S := List D) (mk := fun (s2 : List D) => [.d d0, .d d1, .ol s2, .un, .un]) (s0 := v1) x.hK hp rfl (di_of x.hK (pd_var (d := d1) 1)) (tg1 3 sc__law_tops.nd) (.s (.s (.s (.u (.u .n))))) (fun s2 c3 => ds_last (d1_if (pt_val (pd_all (pd_new (pn_lc x.hK rfl sc__law_tops.nd (dj_of (di_of x.hK (pd_call ((ok__law_near x).mono (by decide)) b tk x.f__law_near (da_cons (pd_var (d := d1) 1) (da_cons (pd_var (d := c3) 3) da_nil))))) (own := [("mate", 4)]) (blk_of (by rfl)) (fun s H C cl fp => tg1 4 sc__law_tops.nd) (fun s H C cl fp c4 => ts_nil) (fun s H C cl fp c4 => pd_lt (pd_index x.hK (pd_var (d := d0) 0) (pd_var (d := c4) 4)) (pd_index x.hK (pd_var (d := d0) 0) (pd_var (d := c3) 3))))) rfl x.g_all)) (ds_append (xs := s2) 2 rfl (pd_var (d := c3) 3) (fun v5 => ds_nil (s := (s2 ++ [v5])) (.s (.s (.s (.u (.u .n)))))) (pv 2) (hb := (fun {t r} h k => pe_bm PySem.F.plainAttrs_list PySem.F.slot_list_append PySem.F.type_list_append h (pv 2) (pa_cons k pa_nil)))) (ds_nil (s := s2) (.s (.s (.s (.u (.u .n)))))))) (fun k l d => on1_bind k l d)) (fun s2 => ds_froz (xs := s2) 2 rfl (ds_last (d1_ret (pd_var (d := D.lst s2) 2))))), rfl⟩
theorem ok__law_tops (x : Fx P w K mg base) : FnB P w K mg base (WK K) 3 (He.fAd K ("_law_tops", none)) m__law_tops 2 [] fun ds _ => ds := by
  obtain ⟨fd, G, F, B⟩ := okG__law_tops x
  exact fnB_all G F B rfl
theorem sc__law_said : FnScope ["asked", "proof_here", "due"] ["asked", "proof_here", "due"] (defScope s__law_said) := ⟨rfl, rfl, rfl, by decide +kernel, rfl, by decide +kernel, by decide +kernel⟩
def m__law_said : List D → M D
  | [d0, d1, d2] => runS (S := Unit) (mRet (b2 dEq (((aCons ((aCons (pure d0) (aCons (pure d1) aNil)) D (cB 2 m_accepts fun ds _ => ds)) (aCons ((aCons (pure d1) (aCons (pure d0) aNil)) D (cK0 2 m_accepts fun _ es => es.reverse)) aNil)) D dLst) >>= fRepr) (((aCons (pure d2) (aCons (pure d2) aNil)) D dLst) >>= fRepr)))
  | _ => stuck
theorem okG__law_said (x : Fx P w K mg base) : ∃ fd, FnG P w K mg base 10 (He.fAd K ("_law_said", none)) fd ["asked", "proof_here", "due"] (spD (WK K) 3 m__law_said) ∧ FunD K "_law_said" "_law_said" (defArgs s__law_said) (defBody s__law_said) (defScope s__law_said) [] [] (He.fAd K ("_law_said", none)) fd ∧ Binds K fd ["asked", "proof_here", "due"] [] := by
  obtain ⟨fd, F, B⟩ := x.d__law_said
  refine ⟨fd, fn_body (n := 3) F sc__law_said rfl fun cdv A fr s H E ds hl b tk hp => ?_, F, B⟩
  match ds, hl with
  | [d0, d1, d2], _ => exact ⟨_, ds_last (d1_ret (pd_eq x.hK b (pd_repr x.hK b x.g_repr (pd_lst (da_cons (pd_call ((ok_accepts x).mono (by decide)) b tk x.f_accepts (da_cons (pd_var (d := d0) 0) (da_cons (pd_var (d := d1) 1) da_nil))) (da_cons (pd_callK0 ((okK_accepts x).mono (by decide)) b tk x.f_accepts (dk_cons (pd_var (d := d1) 1) (dk_cons (pd_var (d := d0) 0) dk_nil))) da_nil)))) (pd_repr x.hK b x.g_repr (pd_lst (da_cons (pd_var (d := d2) 2) (da_cons (pd_var (d := d2) 2) da_nil)))))), rfl⟩
theorem ok__law_said (x : Fx P w K mg base) : FnB P w K mg base (WK K) 10 (He.fAd K ("_law_said", none)) m__law_said 3 [] fun ds _ => ds := by
  obtain ⟨fd, G, F, B⟩ := okG__law_said x
  exact fnB_all G F B rfl
theorem sc__law_bent_line : FnScope ["bag", "line", "way", "k", "odd", "fresh"] ["bag", "line"] (defScope s__law_bent_line) := ⟨rfl, rfl, rfl, by decide +kernel, rfl, by decide +kernel, by decide +kernel⟩
def m__law_bent_line : List D → M D
  | [d0, d1] => runS (S := Unit) (mTwo ((aCons (pure d0) (aCons (pure (D.int 9)) aNil)) D (cB 2 m__law_take fun ds _ => ds)) ((aCons (pure d0) (aCons (aCons (pure d1) aNil D dLen) aNil)) D (cB 2 m__law_take fun ds _ => ds)) fun v1 v2 => seqF (T := Unit) (mIf (b1 asB (b2 dEq (pure v1) (pure (D.int 0)))) (mRet ((aCons (pure d0) (aCons ((aCons (mLst (b1 qList (b1 asQ (pure d1)))) (aCons (aCons (mSl (pure d1) (b1 asI (pure (D.int 1))) (pure none)) aNil D cTuple) (aCons (b2 dAdd (aCons (pure d1) aNil D cTuple) ((aCons (b2 dIxA (pure d1) (pure v2)) aNil) D dTup)) (aCons (pure D.non) (aCons ((pure (D.str ("" : Str))) >>= kJoin (pure d1)) (aCons (aNil D dTup) (aCons (aCons (pure d1) aNil D cTuple) aNil))))))) D dLst) aNil)) D (cB 2 m__law_of fun ds _ => ds))) (pure (.nx ()))) fun _ => seqF (T := Unit) (mIf (b1 asB (b2 dEq (pure v1) (pure (D.int 1)))) (((aCons (pure d0) (aCons ((aCons (b2 dIxA (pure d1) (pure (D.int 0))) (aCons (b2 dAdd (b2 dIxA (pure d1) (pure v2)) (pure (D.str ("0" : Str)))) (aCons (pure D.non) (aCons (pure (D.int 0)) (aCons ((aCons (b2 dIxA (pure d1) (pure v2)) aNil) D dTup) aNil))))) D dLst) aNil)) D (cB 2 m__law_of fun ds _ => ds)) >>= fun v3 => mRet (b2 dAdd (b2 dAdd (aCons (mSl (pure d1) (pure none) (b1 asI (pure v2))) aNil D cTuple) ((aCons (pure v3) aNil) D dTup)) (aCons (mSl (pure d1) (b1 asI (b2 dAdd (pure v2) (pure (D.int 1)))) (pure none)) aNil D cTuple))) (pure (.nx ()))) fun _ => seqF (T := Unit) (mIf (b1 asB (b2 dLt (pure v1) (pure (D.int 5)))) ((b1 qList (b1 asQ (pure d1))) >>= fun v4 => mInsP ((aCons (pure d0) (aCons (aCons (pure d1) aNil D dLen) aNil)) D (cB 2 m__law_take fun ds _ => ds)) (pure v2) v4 fun v5 => mRet (b1 qTuple (pure (false, v5)))) (pure (.nx ()))) fun _ => mRet (mIf (b1 asB (b2 dEq (pure v1) (pure (D.int 5)))) (aCons ((pure d1) >>= dRev) aNil D cTuple) (aCons (pure d1) aNil D cTuple)))
  | _ => stuck
theorem okG__law_bent_line (x : Fx P w K mg base) : ∃ fd, FnG P w K mg base 3 (He.fAd K ("_law_bent_line", none)) fd ["bag", "line"] (spD (WK K) 2 m__law_bent_line) ∧ FunD K "_law_bent_line" "_law_bent_line" (defArgs s__law_bent_line) (defBody s__law_bent_line) (defScope s__law_bent_line) [] [] (He.fAd K ("_law_bent_line", none)) fd ∧ Binds K fd ["bag", "line"] [] := by
  obtain ⟨fd, F, B⟩ := x.d__law_bent_line
  refine ⟨fd, fn_body (n := 2) F sc__law_bent_line rfl fun cdv A fr s H E ds hl b tk hp => ?_, F, B⟩
  match ds, hl with
  | [d0, d1], _ => exact ⟨_, ds_par 2 3 rfl sc__law_bent_line.nd (dx_e (pd_call ((ok__law_take x).mono (by decide)) b tk x.f__law_take (da_cons (pd_var (d := d0) 0) (da_cons pd_int da_nil)))) (dx_e (pd_call ((ok__law_take x).mono (by decide)) b tk x.f__law_take (da_cons (pd_var (d := d0) 0) (da_cons (pd_len x.hK x.g_len (pd_var (d := d1) 1)) da_nil)))) (fun v1 v2 => ds_seq (mkT := fun (_ : Unit) => [.d d0, .d d1, .d v1, .d v2, .un, .un]) (d1_if (pt_eq x.hK b (pd_var (d := v1) 2) pd_int) (ds_last (d1_ret (pd_call ((ok__law_of x).mono (by decide)) b tk x.f__law_of (da_cons (pd_var (d := d0) 0) (da_cons (pd_lst (da_cons (pd_new (pn_list x.hK x.g_list (pq_of (pd_var (d := d1) 1)))) (da_cons (pd_tuple x.hK x.g_tuple (pd_sl x.hK (pd_var (d := d1) 1) (do_some pd_int) do_none)) (da_cons (pd_add x.hK (pd_tuple x.hK x.g_tuple (pd_var (d := d1) 1)) (pd_tup (da_cons (pd_ixA x.hK (pd_var (d := d1) 1) (pd_var (d := v2) 3)) da_nil))) (da_cons pd_non (da_cons (pd_join x.hK pd_str (pd_var (d := d1) 1)) (da_cons (pd_tup da_nil) (da_cons (pd_tuple x.hK x.g_tuple (pd_var (d := d1) 1)) da_nil)))))))) da_nil))))) (ds_nil (s := ()) (.s (.s (.s (.s (.u (.u .n)))))))) (fun _ => ds_seq (mkT := fun (_ : Unit) => [.d d0, .d d1, .d v1, .d v2, .un, .un]) (d1_if (pt_eq x.hK b (pd_var (d := v1) 2) pd_int) (ds_set 4 sc__law_bent_line.nd (dx_e (pd_call ((ok__law_of x).mono (by decide)) b tk x.f__law_of (da_cons (pd_var (d := d0) 0) (da_cons (pd_lst (da_cons (pd_ixA x.hK (pd_var (d := d1) 1) pd_int) (da_cons (pd_add x.hK (pd_ixA x.hK (pd_var (d := d1) 1) (pd_var (d := v2) 3)) pd_str) (da_cons pd_non (da_cons pd_int (da_cons (pd_tup (da_cons (pd_ixA x.hK (pd_var (d := d1) 1) (pd_var (d := v2) 3)) da_nil)) da_nil)))))) da_nil)))) (fun v3 => ds_last (d1_ret (pd_add x.hK (pd_add x.hK (pd_tuple x.hK x.g_tuple (pd_sl x.hK (pd_var (d := d1) 1) do_none (do_some (pd_var (d := v2) 3)))) (pd_tup (da_cons (pd_var (d := v3) 4) da_nil))) (pd_tuple x.hK x.g_tuple (pd_sl x.hK (pd_var (d := d1) 1) (do_some (pd_add x.hK (pd_var (d := v2) 3) pd_int)) do_none)))))) (ds_nil (s := ()) (.s (.s (.s (.s (.u (.u .n)))))))) (fun _ => ds_seq (mkT := fun (_ : Unit) => [.d d0, .d d1, .d v1, .d v2, .un, .un]) (d1_if (pt_lt (pd_var (d := v1) 2) pd_int) (ds_set 5 sc__law_bent_line.nd (dx_n (pn_list x.hK x.g_list (pq_of (pd_var (d := d1) 1)))) (fun v4 => ds_insPop (xs := v4) 5 rfl (pd_call ((ok__law_take x).mono (by decide)) b tk x.f__law_take (da_cons (pd_var (d := d0) 0) (da_cons (pd_len x.hK x.g_len (pd_var (d := d1) 1)) da_nil))) (pd_var (d := v2) 3) (fun v5 => ds_last (d1_ret (pd_tupleq x.hK x.g_tuple (pq_var (xs := v5) 5)))) (fun {t u r} h k l => pe_bm PySem.F.plainAttrs_list PySem.F.slot_list_insert PySem.F.type_list_insert h (pv 5) (pa_cons k (pa_cons l pa_nil))) (fun {t r} h k => pe_bm PySem.F.plainAttrs_list PySem.F.slot_list_pop PySem.F.type_list_pop h (pv 5) (pa_cons k pa_nil)))) (ds_nil (s := ()) (.s (.s (.s (.s (.u (.u .n)))))))) (fun _ => ds_last (d1_ret (pd_ife (pt_eq x.hK b (pd_var (d := v1) 2) pd_int) (pd_tuple x.hK x.g_tuple (pd_rev x.hK (pd_var (d := d1) 1))) (pd_tuple x.hK x.g_tuple (pd_var (d := d1) 1)))))))), rfl⟩
theorem ok__law_bent_line (x : Fx P w K mg base) : FnB P w K mg base (WK K) 3 (He.fAd K ("_law_bent_line", none)) m__law_bent_line 2 [] fun ds _ => ds := by
  obtain ⟨fd, G, F, B⟩ := okG__law_bent_line x
  exact fnB_all G F B rfl
theorem sc__law_is_line : FnScope ["all_here", "thing", "each"] ["all_here", "thing"] (defScope s__law_is_line) := ⟨rfl, rfl, rfl, by decide +kernel, rfl, by decide +kernel, by decide +kernel⟩
def m__law_is_line : List D → M D
  | [d0, d1] => runS (S := Unit) (mRet (vAnd ((pure d1) >>= isiD (tblT "tuple" [])) (vAnd (b2 dEq (aCons (pure d1) aNil D dLen) (aCons (pure d0) aNil D dLen)) (aCons (mLst ((b1 items (pure d0)) >>= fun ds => lcD (fun d => on1 (lcB (fun c1 => pure true) (fun c1 => b2 dIn (pure c1) (pure d1))) d) ds [])) aNil D fAll))))
  | _ => stuck
theorem okG__law_is_line (x : Fx P w K mg base) : ∃ fd, FnG P w K mg base 1 (He.fAd K ("_law_is_line", none)) fd ["all_here", "thing"] (spD (WK K) 2 m__law_is_line) ∧ FunD K "_law_is_line" "_law_is_line" (defArgs s__law_is_line) (defBody s__law_is_line) (defScope s__law_is_line) [] [] (He.fAd K ("_law_is_line", none)) fd ∧ Binds K fd ["all_here", "thing"] [] := by
  obtain ⟨fd, F, B⟩ := x.d__law_is_line
  refine ⟨fd, fn_body (n := 2) F sc__law_is_line rfl fun cdv A fr s H E ds hl b tk hp => ?_, F, B⟩
  match ds, hl with
  | [d0, d1], _ => exact ⟨_, ds_last (d1_ret (pd_and (pd_isiT x.hK x.g_isinstance x.g_tuple (by decide +kernel) (tbl_T (by decide)) (pd_var (d := d1) 1)) (pd_and (pd_eq x.hK b (pd_len x.hK x.g_len (pd_var (d := d1) 1)) (pd_len x.hK x.g_len (pd_var (d := d0) 0))) (pd_one (pd_all (pd_new (pn_lc x.hK rfl sc__law_is_line.nd (dj_of (di_of x.hK (pd_var (d := d0) 0))) (own := [("each", 2)]) (blk_of (by rfl)) (fun s H C cl fp => tg1 2 sc__law_is_line.nd) (fun s H C cl fp c1 => ts_nil) (fun s H C cl fp c1 => pd_in x.hK ⟨b.rm, b.gd⟩ (pd_var (d := c1) 2) (pd_var (d := d1) 1)))) rfl x.g_all))))), rfl⟩
theorem ok__law_is_line (x : Fx P w K mg base) : FnB P w K mg base (WK K) 1 (He.fAd K ("_law_is_line", none)) m__law_is_line 2 [] fun ds _ => ds := by
  obtain ⟨fd, G, F, B⟩ := okG__law_is_line x
  exact fnB_all G F B rfl
theorem sc__law_fits : FnScope ["line", "seen_here", "low", "high"] ["line", "seen_here"] (defScope s__law_fits) := ⟨rfl, rfl, rfl, by decide +kernel, rfl, by decide +kernel, by decide +kernel⟩
def m__law_fits : List D → M D
  | [d0, d1] => runS (S := Unit) (mRet (aCons (mLst ((b1 items (pure d1)) >>= fun ds => lcD (fun d => on2 (lcB (fun c1 => pure true) (fun c1 => b2 dLt ((pure d0) >>= kIndex (pure c1.1)) ((pure d0) >>= kIndex (pure c1.2)))) d) ds [])) aNil D fAll))
  | _ => stuck
theorem okG__law_fits (x : Fx P w K mg base) : ∃ fd, FnG P w K mg base 1 (He.fAd K ("_law_fits", none)) fd ["line", "seen_here"] (spD (WK K) 2 m__law_fits) ∧ FunD K "_law_fits" "_law_fits" (defArgs s__law_fits) (defBody s__law_fits) (defScope s__law_fits) [] [] (He.fAd K ("_law_fits", none)) fd ∧ Binds K fd ["line", "seen_here"] [] := by
  obtain ⟨fd, F, B⟩ := x.d__law_fits
  refine ⟨fd, fn_body (n := 2) F sc__law_fits rfl fun cdv A fr s H E ds hl b tk hp => ?_, F, B⟩
  match ds, hl with
  | [d0, d1], _ => exact ⟨_, ds_last (d1_ret (pd_all (pd_new (pn_lc x.hK rfl sc__law_fits.nd (dj_of (di_of x.hK (pd_var (d := d1) 1))) (own := [("low", 2), ("high", 3)]) (blk_of (by rfl)) (fun s H C cl fp => tg2K K rfl 2 3 rfl rfl sc__law_fits.nd) (fun s H C cl fp c1 => ts_nil) (fun s H C cl fp c1 => pd_lt (pd_index x.hK (pd_var (d := d0) 0) (pd_var (d := c1.1) 2)) (pd_index x.hK (pd_var (d := d0) 0) (pd_var (d := c1.2) 3))))) rfl x.g_all)), rfl⟩
theorem ok__law_fits (x : Fx P w K mg base) : FnB P w K mg base (WK K) 1 (He.fAd K ("_law_fits", none)) m__law_fits 2 [] fun ds _ => ds := by
  obtain ⟨fd, G, F, B⟩ := okG__law_fits x
  exact fnB_all G F B rfl
theorem sc__law_right : FnScope ["bag", "turn", "text_here", "all_here", "line", "seen_here", "sheet", "lines", "is_one", "proof_here", "again", "some", "due", "each"] ["bag"] (defScope s__law_right) := ⟨rfl, rfl, rfl, by decide +kernel, rfl, by decide +kernel, by decide +kernel⟩
def m__law_right : List D → M D
  | [d0] => runS (S := Unit) (seqF (T := Unit) (((aCons (pure (D.int 4)) aNil) (List D) fRange1) >>= fun ds => forD (S := Unit) (fun _ d => on1 (fun c2 => ((aCons (pure d0) (aCons ((aCons (pure (D.str ("2" : Str))) (aCons (pure (D.str ("3" : Str))) (aCons (pure (D.str ("22" : Str))) (aCons (pure (D.str ("32" : Str))) (aCons (pure (D.str ("23" : Str))) (aCons (pure (D.str ("22" : Str))) aNil)))))) D dLst) aNil)) D (cB 2 m__law_world fun ds _ => ds)) >>= fun d => on4 (fun c3 => mTwo ((aCons (pure c3.1) (aCons (pure c3.2.2.2) aNil)) D (cB 2 m__law_sheet fun ds _ => ds)) ((aCons (pure c3.2.1) (aCons (pure c3.2.2.2) aNil)) D (cB 2 m__law_lines fun ds _ => ds)) fun v4 v5 => (aCons (mLst ((b1 items (pure v5)) >>= fun ds => lcD (fun d => on1 (lcB (fun c7 => pure true) (fun c7 => b2 dEq (aCons ((aCons (pure c7) (aCons (pure c3.2.1) aNil)) D (cB 2 m__law_tops fun ds _ => ds)) aNil D dLen) (pure (D.int 1)))) d) ds [])) aNil D fAll) >>= fun v6 => seqF (T := Unit) ((b1 items ((aCons (aNil D dTup) (aCons (aNil D dLst) (aCons (pure D.non) (aCons ((aCons (aNil D dTup) aNil) D dTup) (aCons (aCons (pure c3.2.2.1) aNil D cTuple) (aCons (pure (D.str ("" : Str))) aNil)))))) D dLst)) >>= fun ds => forD (S := Unit) (fun _ d => on1 (fun c9 => mIf (mNot (b1 asB ((aCons ((aCons (pure (D.str ("one" : Str))) (aCons (pure v4) aNil)) D dTup) (aCons (pure c9) (aCons (vAnd (pure v6) (b2 dEq ((pure c9) >>= fRepr) (pure (D.str ("()" : Str))))) aNil))) D (cB 3 m__law_said fun ds _ => ds)))) (mRet (pure (D.bl false))) (pure (.nx ()))) d) ds ()) fun _ => seqF (T := Unit) (((aCons (pure (D.int 6)) aNil) (List D) fRange1) >>= fun ds => forD (S := Unit) (fun _ d => on1 (fun c11 => ((aCons (pure d0) (aCons ((aCons (pure c3.2.2.1) (aCons ((aCons (pure d0) (aCons (pure v5) aNil)) D (cB 2 m__law_of fun ds _ => ds)) (aCons ((aCons (pure d0) (aCons (pure v5) aNil)) D (cB 2 m__law_of fun ds _ => ds)) (aCons ((aCons (pure d0) (aCons (pure c3.2.1) aNil)) D (cB 2 m__law_mixed fun ds _ => ds)) aNil)))) D dLst) aNil)) D (cB 2 m__law_of fun ds _ => ds)) >>= fun v12 => ((aCons (pure d0) (aCons (pure v12) aNil)) D (cB 2 m__law_bent_line fun ds _ => ds)) >>= fun v13 => (vAnd ((aCons (pure c3.2.1) (aCons (pure v13) aNil)) D (cB 2 m__law_is_line fun ds _ => ds)) ((aCons (pure v13) (aCons (pure c3.2.2.2) aNil)) D (cB 2 m__law_fits fun ds _ => ds))) >>= fun v14 => mIf (mNot (b1 asB ((aCons ((aCons (pure (D.str ("two" : Str))) (aCons (pure v4) aNil)) D dTup) (aCons (pure v13) (aCons (vAnd (pure v14) (b2 dGt (aCons ((aCons (pure v13) (aCons (pure c3.2.1) aNil)) D (cB 2 m__law_tops fun ds _ => ds)) aNil D dLen) (pure (D.int 1)))) aNil))) D (cB 3 m__law_said fun ds _ => ds)))) (mRet (pure (D.bl false))) (pure (.nx ()))) d) ds ()) fun _ => pure (.nx ())) d) d) ds ()) fun _ => mRet (pure (D.bl true)))
  | _ => stuck
theorem okG__law_right (x : Fx P w K mg base) : ∃ fd, FnG P w K mg base 11 (He.fAd K ("_law_right", none)) fd ["bag"] (spD (WK K) 1 m__law_right) ∧ FunD K "_law_right" "_law_right" (defArgs s__law_right) (defBody s__law_right) (defScope s__law_right) [] [] (He.fAd K ("_law_right", none)) fd ∧ Binds K fd ["bag"] [] := by
  obtain ⟨fd, F, B⟩ := x.d__law_right
  refine ⟨fd, fn_body (n := 1) F sc__law_right rfl fun cdv A fr s H E ds hl b tk hp => ?_, F, B⟩
  match ds, hl with
  | [d0], _ => exact ⟨_, ds_seq (mkT := fun (_ : Unit) => [.d d0, .un, .un, .un, .un, .un, .un, .un, .un, .un, .un, .un, .un, .un]) (d1_for (S := Unit) (mk := fun (_ : Unit) => [.d d0, .un, .un, .un, .un, .un, .un, .un, .un, .un, .un, .un, .un, .un]) (s0 := ()) x.hK hp rfl (di_range1 x.g_range (da_cons pd_int da_nil)) (tg1 1 sc__law_right.nd) (.s (.u (.u (.u (.u (.u (.u (.u (.u (.u (.u (.u (.u (.u .n)))))))))))))) (fun _ c2 => ds_asg (tg4 2 3 4 5 rfl rfl sc__law_right.nd) (pd_call ((ok__law_world x).mono (by decide)) b tk x.f__law_world (da_cons (pd_var (d := d0) 0) (da_cons (pd_lst (da_cons pd_str (da_cons pd_str (da_cons pd_str (da_cons pd_str (da_cons pd_str (da_cons pd_str da_nil))))))) da_nil))) (fun c3 => ds_par 6 7 rfl sc__law_right.nd (dx_e (pd_call ((ok__law_sheet x).mono (by decide)) b tk x.f__law_sheet (da_cons (pd_var (d := c3.1) 2) (da_cons (pd_var (d := c3.2.2.2) 5) da_nil)))) (dx_e (pd_call ((ok__law_lines x).mono (by decide)) b tk x.f__law_lines (da_cons (pd_var (d := c3.2.1) 3) (da_cons (pd_var (d := c3.2.2.2) 5) da_nil)))) (fun v4 v5 => ds_set 8 sc__law_right.nd (dx_e (pd_all (pd_new (pn_lc x.hK rfl sc__law_right.nd (dj_of (di_of x.hK (pd_var (d := v5) 7))) (own := [("each", 13)]) (blk_of (by rfl)) (fun s H C cl fp => tg1 13 sc__law_right.nd) (fun s H C cl fp c7 => ts_nil) (fun s H C cl fp c7 => pd_eq x.hK ⟨b.rm, b.gd⟩ (pd_len x.hK x.g_len (pd_call ((ok__law_tops x).mono (by decide)) ⟨b.rm, b.gd⟩ takes0 x.f__law_tops (da_cons (pd_var (d := c7) 13) (da_cons (pd_var (d := c3.2.1) 3) da_nil)))) pd_int))) rfl x.g_all)) (fun v6 => ds_seq (mkT := fun (_ : Unit) => [.d d0, .d c2, .d c3.1, .d c3.2.1, .d c3.2.2.1, .d c3.2.2.2, .d v4, .d v5, .d v6, .un, .un, .un, .un, .un]) (d1_for (S := Unit) (mk := fun (_ : Unit) => [.d d0, .d c2, .d c3.1, .d c3.2.1, .d c3.2.2.1, .d c3.2.2.2, .d v4, .d v5, .d v6, .un, .un, .un, .un, .un]) (s0 := ()) x.hK hp rfl (di_of x.hK (pd_lst (da_cons (pd_tup da_nil) (da_cons (pd_lst da_nil) (da_cons pd_non (da_cons (pd_tup (da_cons (pd_tup da_nil) da_nil)) (da_cons (pd_tuple x.hK x.g_tuple (pd_var (d := c3.2.2.1) 4)) (da_cons pd_str da_nil)))))))) (tg1 9 sc__law_right.nd) (.s (.s (.s (.s (.s (.s (.s (.s (.s (.u (.u (.u (.u (.u .n)))))))))))))) (fun _ c9 => ds_last (d1_if (pt_not (pt_val (pd_call ((ok__law_said x).mono (by decide)) b tk x.f__law_said (da_cons (pd_tup (da_cons pd_str (da_cons (pd_var (d := v4) 6) da_nil))) (da_cons (pd_var (d := c9) 9) (da_cons (pd_and (pd_var (d := v6) 8) (pd_one (pd_eq x.hK b (pd_repr x.hK b x.g_repr (pd_var (d := c9) 9)) pd_str))) da_nil)))))) (ds_last (d1_ret pd_bl)) (ds_nil (s := ()) (.s (.s (.s (.s (.s (.s (.s (.s (.s (.u (.u (.u (.u (.u .n))))))))))))))))) (fun k l d => on1_bind k l d)) (fun _ => ds_seq (mkT := fun (_ : Unit) => [.d d0, .d c2, .d c3.1, .d c3.2.1, .d c3.2.2.1, .d c3.2.2.2, .d v4, .d v5, .d v6, .un, .un, .un, .un, .un]) (d1_for (S := Unit) (mk := fun (_ : Unit) => [.d d0, .d c2, .d c3.1, .d c3.2.1, .d c3.2.2.1, .d c3.2.2.2, .d v4, .d v5, .d v6, .un, .un, .un, .un, .un]) (s0 := ()) x.hK hp rfl (di_range1 x.g_range (da_cons pd_int da_nil)) (tg1 10 sc__law_right.nd) (.s (.s (.s (.s (.s (.s (.s (.s (.s (.u (.u (.u (.u (.u .n)))))))))))))) (fun _ c11 => ds_set 11 sc__law_right.nd (dx_e (pd_call ((ok__law_of x).mono (by decide)) b tk x.f__law_of (da_cons (pd_var (d := d0) 0) (da_cons (pd_lst (da_cons (pd_var (d := c3.2.2.1) 4) (da_cons (pd_call ((ok__law_of x).mono (by decide)) b tk x.f__law_of (da_cons (pd_var (d := d0) 0) (da_cons (pd_var (d := v5) 7) da_nil))) (da_cons (pd_call ((ok__law_of x).mono (by decide)) b tk x.f__law_of (da_cons (pd_var (d := d0) 0) (da_cons (pd_var (d := v5) 7) da_nil))) (da_cons (pd_call ((ok__law_mixed x).mono (by decide)) b tk x.f__law_mixed (da_cons (pd_var (d := d0) 0) (da_cons (pd_var (d := c3.2.1) 3) da_nil))) da_nil))))) da_nil)))) (fun v12 => ds_set 9 sc__law_right.nd (dx_e (pd_call ((ok__law_bent_line x).mono (by decide)) b tk x.f__law_bent_line (da_cons (pd_var (d := d0) 0) (da_cons (pd_var (d := v12) 11) da_nil)))) (fun v13 => ds_set 12 sc__law_right.nd (dx_e (pd_and (pd_call ((ok__law_is_line x).mono (by decide)) b tk x.f__law_is_line (da_cons (pd_var (d := c3.2.1) 3) (da_cons (pd_var (d := v13) 9) da_nil))) (pd_one (pd_call ((ok__law_fits x).mono (by decide)) b tk x.f__law_fits (da_cons (pd_var (d := v13) 9) (da_cons (pd_var (d := c3.2.2.2) 5) da_nil)))))) (fun v14 => ds_last (d1_if (pt_not (pt_val (pd_call ((ok__law_said x).mono (by decide)) b tk x.f__law_said (da_cons (pd_tup (da_cons pd_str (da_cons (pd_var (d := v4) 6) da_nil))) (da_cons (pd_var (d := v13) 9) (da_cons (pd_and (pd_var (d := v14) 12) (pd_one (pd_gt (pd_len x.hK x.g_len (pd_call ((ok__law_tops x).mono (by decide)) b tk x.f__law_tops (da_cons (pd_var (d := v13) 9) (da_cons (pd_var (d := c3.2.1) 3) da_nil)))) pd_int))) da_nil)))))) (ds_last (d1_ret pd_bl)) (ds_nil (s := ()) (.s (.s (.s (.s (.s (.s (.s (.s (.s (.u (.u (.u (.u (.u .n)))))))))))))))))))) (fun k l d => on1_bind k l d)) (fun _ => ds_nil (s := ()) (.s (.u (.u (.u (.u (.u (.u (.u (.u (.u (.u (.u (.u (.u .n)))))))))))))))))))) (fun k l d => on1_bind k l d)) (fun _ => ds_last (d1_ret pd_bl)), rfl⟩
theorem ok__law_right (x : Fx P w K mg base) : FnB P w K mg base (WK K) 11 (He.fAd K ("_law_right", none)) m__law_right 1 [] fun ds _ => ds := by
  obtain ⟨fd, G, F, B⟩ := okG__law_right x
  exact fnB_all G F B rfl
theorem sc__law_bag : FnScope ["script", "spot", "cell", "part"] ["script", "spot"] (defScope s__law_bag) := ⟨rfl, rfl, rfl, by decide +kernel, rfl, by decide +kernel, by decide +kernel⟩
def m__law_bag : List D → M D
  | [d0, d1] => runS (S := Unit) ((mIf (b1 asB (b2 dLt (pure d1) (aCons (pure d0) aNil D dLen))) (b2 dIxA (pure d0) (pure d1)) (b2 dAdd (b2 dMul (pure (D.int 6151)) (pure d1)) (pure (D.int 98317)))) >>= fun v1 => seqF (T := D) ((b1 items (mIf (b1 asB (b2 dGe (pure d1) (aCons (pure d0) aNil D dLen))) (mSl (pure d0) (pure none) (b1 asI (pure (D.int 3)))) (aNil D dLst))) >>= fun ds => forD (S := D) (fun s2 d => on1 (fun c3 => (b2 dMod (aCons (b2 dAdd (b2 dMul (pure s2) (pure (D.int 37))) (pure c3)) aNil D fInt) (pure (D.int 2147483587))) >>= fun v4 => pure (.nx v4)) d) ds v1) fun s2 => mRet (((aCons (b2 dMod (aCons (pure s2) aNil D fInt) (pure (D.int 2147483587))) (aCons (mIf (mOr (b1 asB (b2 dLt (pure s2) (pure (D.int 0)))) (b1 asB (b2 dGe (pure s2) (b2 dPow (pure (D.int 10)) (pure (D.int 18)))))) (aCons (pure s2) aNil D fAbs) (pure (D.int 0))) (aCons (pure (D.int 0)) aNil))) (List D) nLst) >>= mNew))
  | _ => stuck
theorem okG__law_bag (x : Fx P w K mg base) : ∃ fd, FnG P w K mg base 1 (He.fAd K ("_law_bag", none)) fd ["script", "spot"] (spD (WK K) 2 m__law_bag) ∧ FunD K "_law_bag" "_law_bag" (defArgs s__law_bag) (defBody s__law_bag) (defScope s__law_bag) [] [] (He.fAd K ("_law_bag", none)) fd ∧ Binds K fd ["script", "spot"] [] := by
  obtain ⟨fd, F, B⟩ := x.d__law_bag
  refine ⟨fd, fn_body (n := 2) F sc__law_bag rfl fun cdv A fr s H E ds hl b tk hp => ?_, F, B⟩
  match ds, hl with
  | [d0, d1], _ => exact ⟨_, ds_set 2 sc__law_bag.nd (dx_e (pd_ife (pt_lt (pd_var (d := d1) 1) (pd_len x.hK x.g_len (pd_var (d := d0) 0))) (pd_ixA x.hK (pd_var (d := d0) 0) (pd_var (d := d1) 1)) (pd_add x.hK (pd_mul pd_int (pd_var (d := d1) 1)) pd_int))) (fun v1 => ds_seq (mkT := fun (s2 : D) => [.d d0, .d d1, .d s2, .un]) (d1_for (S := D) (mk := fun (s2 : D) => [.d d0, .d d1, .d s2, .un]) (s0 := v1) x.hK hp rfl (di_of x.hK (pd_ife (pt_ge (pd_var (d := d1) 1) (pd_len x.hK x.g_len (pd_var (d := d0) 0))) (pd_sl x.hK (pd_var (d := d0) 0) do_none (do_some pd_int)) (pd_lst da_nil))) (tg1 3 sc__law_bag.nd) (.s (.s (.s (.u .n)))) (fun s2 c3 => ds_set 2 sc__law_bag.nd (dx_e (pd_mod (pd_intOf (pd_add x.hK (pd_mul (pd_var (d := s2) 2) pd_int) (pd_var (d := c3) 3)) x.g_int) pd_int)) (fun v4 => ds_nil (s := v4) (.s (.s (.s (.u .n)))))) (fun k l d => on1_bind k l d)) (fun s2 => ds_last (d1_ret (pd_newI (pn_lst (da_cons (pd_mod (pd_intOf (pd_var (d := s2) 2) x.g_int) pd_int) (da_cons (pd_ife (pt_w (pw_or (pt_lt (pd_var (d := s2) 2) pd_int) (pw_or1 (pt_ge (pd_var (d := s2) 2) (pd_pow pd_int pd_int))))) (pd_absOf (pd_var (d := s2) 2) x.g_abs) pd_int) (da_cons pd_int da_nil)))))))), rfl⟩
theorem ok__law_bag (x : Fx P w K mg base) : FnB P w K mg base (WK K) 1 (He.fAd K ("_law_bag", none)) m__law_bag 2 [] fun ds _ => ds := by
  obtain ⟨fd, G, F, B⟩ := okG__law_bag x
  exact fnB_all G F B rfl
theorem sc_law : FnScope ["script", "sheet", "told_here", "spot"] ["script"] (defScope s_law) := ⟨rfl, rfl, rfl, by decide +kernel, rfl, by decide +kernel, by decide +kernel⟩
def m_law : List D → M D
  | [d0] => runS (S := Unit) ((pure (D.str ("board 22\n01 < 00\n10 < 00\n01 < 11" : Str))) >>= fun v1 => ((aCons ((aCons ((aCons (pure (D.str ("two" : Str))) (aCons (pure v1) aNil)) D dTup) (aCons ((aCons (pure (D.str ("01" : Str))) (aCons (pure (D.str ("10" : Str))) (aCons (pure (D.str ("11" : Str))) (aCons (pure (D.str ("00" : Str))) aNil)))) D dTup) aNil)) D (cB 2 m_accepts fun ds _ => ds)) (aCons ((aCons ((aCons (pure (D.str ("two" : Str))) (aCons (pure v1) aNil)) D dTup) (aCons ((aCons (pure (D.str ("01" : Str))) (aCons (pure (D.str ("11" : Str))) (aCons (pure (D.str ("10" : Str))) (aCons (pure (D.str ("00" : Str))) aNil)))) D dTup) aNil)) D (cB 2 m_accepts fun ds _ => ds)) aNil)) D dLst) >>= fun v2 => (b2 dAdd (pure v2) ((aCons ((aCons ((aCons (pure (D.str ("one" : Str))) (aCons (pure v1) aNil)) D dTup) (aCons (aNil D dTup) aNil)) D (cB 2 m_accepts fun ds _ => ds)) (aCons ((aCons ((aCons (pure (D.str ("one" : Str))) (aCons (b2 dAdd (pure v1) (pure (D.str ("\n11 < 10" : Str)))) aNil)) D dTup) (aCons (aNil D dTup) aNil)) D (cB 2 m_accepts fun ds _ => ds)) aNil)) D dLst)) >>= fun v3 => seqF (T := Unit) (mIf (b1 asB (b2 dNe ((pure v3) >>= fRepr) (((aCons (pure (D.bl true)) (aCons (pure (D.bl false)) (aCons (pure (D.bl false)) (aCons (pure (D.bl true)) aNil)))) D dLst) >>= fRepr))) (mRet (pure (D.bl false))) (pure (.nx ()))) fun _ => mRet (aCons (mLst (((aCons (aCons (pure (D.int 2)) (aCons (aCons (aCons (pure d0) aNil D dLen) (aCons (pure (D.int 5)) aNil) D fMin2) aNil) D fMax2) aNil) (List D) fRange1) >>= fun ds => lcD (fun d => on1 (lcB (fun c4 => pure true) (fun c4 => (aCons ((aCons (pure d0) (aCons (pure c4) aNil)) D (cB 2 m__law_bag fun ds _ => ds)) aNil) D (cB 1 m__law_right fun ds _ => ds))) d) ds [])) aNil D fAll))
  | _ => stuck
theorem okG_law (x : Fx P w K mg base) : ∃ fd, FnG P w K mg base 12 (He.fAd K ("law", none)) fd ["script"] (spD (WK K) 1 m_law) ∧ FunD K "law" "law" (defArgs s_law) (defBody s_law) (defScope s_law) [] [] (He.fAd K ("law", none)) fd ∧ Binds K fd ["script"] [] := by
  obtain ⟨fd, F, B⟩ := x.d_law
  refine ⟨fd, fn_body (n := 1) F sc_law rfl fun cdv A fr s H E ds hl b tk hp => ?_, F, B⟩
  match ds, hl with
  | [d0], _ => exact ⟨_, ds_set 1 sc_law.nd (dx_e pd_str) (fun v1 => ds_set 2 sc_law.nd (dx_e (pd_lst (da_cons (pd_call ((ok_accepts x).mono (by decide)) b tk x.f_accepts (da_cons (pd_tup (da_cons pd_str (da_cons (pd_var (d := v1) 1) da_nil))) (da_cons (pd_tup (da_cons pd_str (da_cons pd_str (da_cons pd_str (da_cons pd_str da_nil))))) da_nil))) (da_cons (pd_call ((ok_accepts x).mono (by decide)) b tk x.f_accepts (da_cons (pd_tup (da_cons pd_str (da_cons (pd_var (d := v1) 1) da_nil))) (da_cons (pd_tup (da_cons pd_str (da_cons pd_str (da_cons pd_str (da_cons pd_str da_nil))))) da_nil))) da_nil)))) (fun v2 => ds_set 2 sc_law.nd (dx_e (pd_add x.hK (pd_var (d := v2) 2) (pd_lst (da_cons (pd_call ((ok_accepts x).mono (by decide)) b tk x.f_accepts (da_cons (pd_tup (da_cons pd_str (da_cons (pd_var (d := v1) 1) da_nil))) (da_cons (pd_tup da_nil) da_nil))) (da_cons (pd_call ((ok_accepts x).mono (by decide)) b tk x.f_accepts (da_cons (pd_tup (da_cons pd_str (da_cons (pd_add x.hK (pd_var (d := v1) 1) pd_str) da_nil))) (da_cons (pd_tup da_nil) da_nil))) da_nil))))) (fun v3 => ds_seq (mkT := fun (_ : Unit) => [.d d0, .d v1, .d v3, .un]) (d1_if (pt_ne x.hK b (pd_repr x.hK b x.g_repr (pd_var (d := v3) 2)) (pd_repr x.hK b x.g_repr (pd_lst (da_cons pd_bl (da_cons pd_bl (da_cons pd_bl (da_cons pd_bl da_nil))))))) (ds_last (d1_ret pd_bl)) (ds_nil (s := ()) (.s (.s (.s (.u .n)))))) (fun _ => ds_last (d1_ret (pd_all (pd_new (pn_lc x.hK rfl sc_law.nd (dj_of (di_range1 x.g_range (da_cons (pd_maxOf pd_int (pd_minOf (pd_len x.hK x.g_len (pd_var (d := d0) 0)) pd_int rfl x.g_min) rfl x.g_max) da_nil))) (own := [("spot", 3)]) (blk_of (by rfl)) (fun s H C cl fp => tg1 3 sc_law.nd) (fun s H C cl fp c4 => ts_nil) (fun s H C cl fp c4 => pd_call ((ok__law_right x).mono (by decide)) ⟨b.rm, b.gd⟩ takes0 x.f__law_right (da_cons (pd_call ((ok__law_bag x).mono (by decide)) ⟨b.rm, b.gd⟩ takes0 x.f__law_bag (da_cons (pd_var (d := d0) 0) (da_cons (pd_var (d := c4) 3) da_nil))) da_nil)))) rfl x.g_all)))))), rfl⟩
theorem ok_law (x : Fx P w K mg base) : FnB P w K mg base (WK K) 12 (He.fAd K ("law", none)) m_law 1 [] fun ds _ => ds := by
  obtain ⟨fd, G, F, B⟩ := okG_law x
  exact fnB_all G F B rfl
end
end G
namespace G
open PySem PySem.Spec L2 PD
open PyProof.Rows hiding St
def df_settings_in : DfA := ⟨fun K => He.fAd K ("settings_in", none), "settings_in", "settings_in", s_settings_in, fun K => []⟩
theorem fa_settings_in {K : FK} {w : World} (c : ∃ fd, FunD K df_settings_in.name df_settings_in.qual (defArgs df_settings_in.st) (defBody df_settings_in.st) (defScope df_settings_in.st) (df_settings_in.dv K) [] (df_settings_in.at_ K) fd) : ∃ fd, FunD K "settings_in" "settings_in" (defArgs s_settings_in) (defBody s_settings_in) (defScope s_settings_in) [] [] (He.fAd K ("settings_in", none)) fd ∧ Binds K fd ["part"] [] := by
  obtain ⟨fd, F⟩ := c
  exact ⟨fd, F, FunD.bindsN (ps := ["part"]) F fun _ _ _ _ _ _ us hl => match us, hl with | [_], _ => rfl⟩
def s_InvalidSizes_init : Stmt := inner (top 10) 0
theorem sc_InvalidSizes_init : FnScope ["self", "index"] ["self", "index"] (defScope s_InvalidSizes_init) := ⟨rfl, rfl, rfl, by decide +kernel, rfl, by decide +kernel, by decide +kernel⟩
def df_InvalidSizes : DfA := ⟨fun K => He.fAd K ("InvalidSizes", some "__init__"), "__init__", "InvalidSizes.__init__", s_InvalidSizes_init, fun K => []⟩
theorem fx_InvalidSizes {P : Program} {w : World} {K : FK} {mg : Str → Option Value} {base : Heap} (h : cOex "InvalidSizes" "index" K = true) (c : ∃ fd, FunD K df_InvalidSizes.name df_InvalidSizes.qual (defArgs df_InvalidSizes.st) (defBody df_InvalidSizes.st) (defScope df_InvalidSizes.st) (df_InvalidSizes.dv K) [] (df_InvalidSizes.at_ K) fd) : ExC P w K mg base (WK K) "InvalidSizes" "index" := by
  obtain ⟨fd, F⟩ := c
  exact exC_of h F rfl sc_InvalidSizes_init (.inl rfl) (.inl rfl) (by decide) (by decide) (FunD.bindsN (ps := ["self", "index"]) F fun _ _ _ _ _ _ us hl => match us, hl with | [_, _], _ => rfl)
def df_is_within : DfA := ⟨fun K => He.fAd K ("is_within", none), "is_within", "is_within", s_is_within, fun K => []⟩
theorem fa_is_within {K : FK} {w : World} (c : ∃ fd, FunD K df_is_within.name df_is_within.qual (defArgs df_is_within.st) (defBody df_is_within.st) (defScope df_is_within.st) (df_is_within.dv K) [] (df_is_within.at_ K) fd) : ∃ fd, FunD K "is_within" "is_within" (defArgs s_is_within) (defBody s_is_within) (defScope s_is_within) [] [] (He.fAd K ("is_within", none)) fd ∧ Binds K fd ["value", "least", "most"] [] := by
  obtain ⟨fd, F⟩ := c
  exact ⟨fd, F, FunD.bindsN (ps := ["value", "least", "most"]) F fun _ _ _ _ _ _ us hl => match us, hl with | [_, _, _], _ => rfl⟩
def df_check_sizes : DfA := ⟨fun K => He.fAd K ("check_sizes", none), "check_sizes", "check_sizes", s_check_sizes, fun K => []⟩
theorem fa_check_sizes {K : FK} {w : World} (c : ∃ fd, FunD K df_check_sizes.name df_check_sizes.qual (defArgs df_check_sizes.st) (defBody df_check_sizes.st) (defScope df_check_sizes.st) (df_check_sizes.dv K) [] (df_check_sizes.at_ K) fd) : ∃ fd, FunD K "check_sizes" "check_sizes" (defArgs s_check_sizes) (defBody s_check_sizes) (defScope s_check_sizes) [] [] (He.fAd K ("check_sizes", none)) fd ∧ Binds K fd ["sizes"] [] := by
  obtain ⟨fd, F⟩ := c
  exact ⟨fd, F, FunD.bindsN (ps := ["sizes"]) F fun _ _ _ _ _ _ us hl => match us, hl with | [_], _ => rfl⟩
def df_Board_init : DfA := ⟨fun K => He.fAd K ("Board", some "__init__"), "__init__", "Board.__init__", s_Board_init, fun K => []⟩
theorem fa_Board_init {K : FK} {w : World} (c : ∃ fd, FunD K df_Board_init.name df_Board_init.qual (defArgs df_Board_init.st) (defBody df_Board_init.st) (defScope df_Board_init.st) (df_Board_init.dv K) [] (df_Board_init.at_ K) fd) : ∃ fd, FunD K "__init__" "Board.__init__" (defArgs s_Board_init) (defBody s_Board_init) (defScope s_Board_init) [] [] (He.fAd K ("Board", some "__init__")) fd ∧ Binds K fd ["self", "sizes"] [] := by
  obtain ⟨fd, F⟩ := c
  exact ⟨fd, F, FunD.bindsN (ps := ["self", "sizes"]) F fun _ _ _ _ _ _ us hl => match us, hl with | [_, _], _ => rfl⟩
def df_board_told : DfA := ⟨fun K => He.fAd K ("board_told", none), "board_told", "board_told", s_board_told, fun K => []⟩
theorem fa_board_told {K : FK} {w : World} (c : ∃ fd, FunD K df_board_told.name df_board_told.qual (defArgs df_board_told.st) (defBody df_board_told.st) (defScope df_board_told.st) (df_board_told.dv K) [] (df_board_told.at_ K) fd) : ∃ fd, FunD K "board_told" "board_told" (defArgs s_board_told) (defBody s_board_told) (defScope s_board_told) [] [] (He.fAd K ("board_told", none)) fd ∧ Binds K fd ["text"] [] := by
  obtain ⟨fd, F⟩ := c
  exact ⟨fd, F, FunD.bindsN (ps := ["text"]) F fun _ _ _ _ _ _ us hl => match us, hl with | [_], _ => rfl⟩
def s_InvalidFacts_init : Stmt := inner (top 11) 0
theorem sc_InvalidFacts_init : FnScope ["self", "index"] ["self", "index"] (defScope s_InvalidFacts_init) := ⟨rfl, rfl, rfl, by decide +kernel, rfl, by decide +kernel, by decide +kernel⟩
def df_InvalidFacts : DfA := ⟨fun K => He.fAd K ("InvalidFacts", some "__init__"), "__init__", "InvalidFacts.__init__", s_InvalidFacts_init, fun K => []⟩
theorem fx_InvalidFacts {P : Program} {w : World} {K : FK} {mg : Str → Option Value} {base : Heap} (h : cOex "InvalidFacts" "index" K = true) (c : ∃ fd, FunD K df_InvalidFacts.name df_InvalidFacts.qual (defArgs df_InvalidFacts.st) (defBody df_InvalidFacts.st) (defScope df_InvalidFacts.st) (df_InvalidFacts.dv K) [] (df_InvalidFacts.at_ K) fd) : ExC P w K mg base (WK K) "InvalidFacts" "index" := by
  obtain ⟨fd, F⟩ := c
  exact exC_of h F rfl sc_InvalidFacts_init (.inl rfl) (.inl rfl) (by decide) (by decide) (FunD.bindsN (ps := ["self", "index"]) F fun _ _ _ _ _ _ us hl => match us, hl with | [_, _], _ => rfl)
def df_Board_contains : DfA := ⟨fun K => He.fAd K ("Board", some "__contains__"), "__contains__", "Board.__contains__", s_Board_contains, fun K => []⟩
theorem fa_Board_contains {K : FK} {w : World} (c : ∃ fd, FunD K df_Board_contains.name df_Board_contains.qual (defArgs df_Board_contains.st) (defBody df_Board_contains.st) (defScope df_Board_contains.st) (df_Board_contains.dv K) [] (df_Board_contains.at_ K) fd) : ∃ fd, FunD K "__contains__" "Board.__contains__" (defArgs s_Board_contains) (defBody s_Board_contains) (defScope s_Board_contains) [] [] (He.fAd K ("Board", some "__contains__")) fd ∧ Binds K fd ["self", "value"] [] := by
  obtain ⟨fd, F⟩ := c
  exact ⟨fd, F, FunD.bindsN (ps := ["self", "value"]) F fun _ _ _ _ _ _ us hl => match us, hl with | [_, _], _ => rfl⟩
def df_are_neighbours : DfA := ⟨fun K => He.fAd K ("are_neighbours", none), "are_neighbours", "are_neighbours", s_are_neighbours, fun K => []⟩
theorem fa_are_neighbours {K : FK} {w : World} (c : ∃ fd, FunD K df_are_neighbours.name df_are_neighbours.qual (defArgs df_are_neighbours.st) (defBody df_are_neighbours.st) (defScope df_are_neighbours.st) (df_are_neighbours.dv K) [] (df_are_neighbours.at_ K) fd) : ∃ fd, FunD K "are_neighbours" "are_neighbours" (defArgs s_are_neighbours) (defBody s_are_neighbours) (defScope s_are_neighbours) [] [] (He.fAd K ("are_neighbours", none)) fd ∧ Binds K fd ["one", "other"] [] := by
  obtain ⟨fd, F⟩ := c
  exact ⟨fd, F, FunD.bindsN (ps := ["one", "other"]) F fun _ _ _ _ _ _ us hl => match us, hl with | [_, _], _ => rfl⟩
def df_is_fact : DfA := ⟨fun K => He.fAd K ("is_fact", none), "is_fact", "is_fact", s_is_fact, fun K => []⟩
theorem fa_is_fact {K : FK} {w : World} (c : ∃ fd, FunD K df_is_fact.name df_is_fact.qual (defArgs df_is_fact.st) (defBody df_is_fact.st) (defScope df_is_fact.st) (df_is_fact.dv K) [] (df_is_fact.at_ K) fd) : ∃ fd, FunD K "is_fact" "is_fact" (defArgs s_is_fact) (defBody s_is_fact) (defScope s_is_fact) [] [] (He.fAd K ("is_fact", none)) fd ∧ Binds K fd ["board", "value"] [] := by
  obtain ⟨fd, F⟩ := c
  exact ⟨fd, F, FunD.bindsN (ps := ["board", "value"]) F fun _ _ _ _ _ _ us hl => match us, hl with | [_, _], _ => rfl⟩
def df_leads : DfA := ⟨fun K => He.fAd K ("leads", none), "leads", "leads", s_leads, fun K => []⟩
theorem fa_leads {K : FK} {w : World} (c : ∃ fd, FunD K df_leads.name df_leads.qual (defArgs df_leads.st) (defBody df_leads.st) (defScope df_leads.st) (df_leads.dv K) [] (df_leads.at_ K) fd) : ∃ fd, FunD K "leads" "leads" (defArgs s_leads) (defBody s_leads) (defScope s_leads) [] [] (He.fAd K ("leads", none)) fd ∧ Binds K fd ["facts", "start", "goal"] [] := by
  obtain ⟨fd, F⟩ := c
  exact ⟨fd, F, FunD.bindsN (ps := ["facts", "start", "goal"]) F fun _ _ _ _ _ _ us hl => match us, hl with | [_, _, _], _ => rfl⟩
def df_is_let : DfA := ⟨fun K => He.fAd K ("is_let", none), "is_let", "is_let", s_is_let, fun K => []⟩
theorem fa_is_let {K : FK} {w : World} (c : ∃ fd, FunD K df_is_let.name df_is_let.qual (defArgs df_is_let.st) (defBody df_is_let.st) (defScope df_is_let.st) (df_is_let.dv K) [] (df_is_let.at_ K) fd) : ∃ fd, FunD K "is_let" "is_let" (defArgs s_is_let) (defBody s_is_let) (defScope s_is_let) [] [] (He.fAd K ("is_let", none)) fd ∧ Binds K fd ["facts", "fact"] [] := by
  obtain ⟨fd, F⟩ := c
  exact ⟨fd, F, FunD.bindsN (ps := ["facts", "fact"]) F fun _ _ _ _ _ _ us hl => match us, hl with | [_, _], _ => rfl⟩
def df_check_facts : DfA := ⟨fun K => He.fAd K ("check_facts", none), "check_facts", "check_facts", s_check_facts, fun K => []⟩
theorem fa_check_facts {K : FK} {w : World} (c : ∃ fd, FunD K df_check_facts.name df_check_facts.qual (defArgs df_check_facts.st) (defBody df_check_facts.st) (defScope df_check_facts.st) (df_check_facts.dv K) [] (df_check_facts.at_ K) fd) : ∃ fd, FunD K "check_facts" "check_facts" (defArgs s_check_facts) (defBody s_check_facts) (defScope s_check_facts) [] [] (He.fAd K ("check_facts", none)) fd ∧ Binds K fd ["board", "facts"] [] := by
  obtain ⟨fd, F⟩ := c
  exact ⟨fd, F, FunD.bindsN (ps := ["board", "facts"]) F fun _ _ _ _ _ _ us hl => match us, hl with | [_, _], _ => rfl⟩
theorem kin_Board : ∀ cc ∈ tb_Board.filterMap (fun p => ownOf p.1), cc = ("Board" : Str) ∨ cc = ("Notes" : Str) := by decide +kernel
def s_NotABoard_init : Stmt := inner (top 7) 0
theorem sc_NotABoard_init : FnScope ["self", "given"] ["self", "given"] (defScope s_NotABoard_init) := ⟨rfl, rfl, rfl, by decide +kernel, rfl, by decide +kernel, by decide +kernel⟩
def df_NotABoard : DfA := ⟨fun K => He.fAd K ("NotABoard", some "__init__"), "__init__", "NotABoard.__init__", s_NotABoard_init, fun K => []⟩
theorem fx_NotABoard {P : Program} {w : World} {K : FK} {mg : Str → Option Value} {base : Heap} (h : cOex "NotABoard" "given" K = true) (c : ∃ fd, FunD K df_NotABoard.name df_NotABoard.qual (defArgs df_NotABoard.st) (defBody df_NotABoard.st) (defScope df_NotABoard.st) (df_NotABoard.dv K) [] (df_NotABoard.at_ K) fd) : ExC P w K mg base (WK K) "NotABoard" "given" := by
  obtain ⟨fd, F⟩ := c
  exact exC_of h F rfl sc_NotABoard_init (.inl rfl) (.inl rfl) (by decide) (by decide) (FunD.bindsN (ps := ["self", "given"]) F fun _ _ _ _ _ _ us hl => match us, hl with | [_, _], _ => rfl)
def df_check_board : DfA := ⟨fun K => He.fAd K ("check_board", none), "check_board", "check_board", s_check_board, fun K => []⟩
theorem fa_check_board {K : FK} {w : World} (c : ∃ fd, FunD K df_check_board.name df_check_board.qual (defArgs df_check_board.st) (defBody df_check_board.st) (defScope df_check_board.st) (df_check_board.dv K) [] (df_check_board.at_ K) fd) : ∃ fd, FunD K "check_board" "check_board" (defArgs s_check_board) (defBody s_check_board) (defScope s_check_board) [] [] (He.fAd K ("check_board", none)) fd ∧ Binds K fd ["value"] [] := by
  obtain ⟨fd, F⟩ := c
  exact ⟨fd, F, FunD.bindsN (ps := ["value"]) F fun _ _ _ _ _ _ us hl => match us, hl with | [_], _ => rfl⟩
def df_Notes_init : DfA := ⟨fun K => He.fAd K ("Notes", some "__init__"), "__init__", "Notes.__init__", s_Notes_init, fun K => [.ref (He.dflAt ("Notes", some "__init__") 0 K)]⟩
theorem fa_Notes_init {K : FK} {w : World} (c : ∃ fd, FunD K df_Notes_init.name df_Notes_init.qual (defArgs df_Notes_init.st) (defBody df_Notes_init.st) (defScope df_Notes_init.st) (df_Notes_init.dv K) [] (df_Notes_init.at_ K) fd) : ∃ fd, FunD K "__init__" "Notes.__init__" (defArgs s_Notes_init) (defBody s_Notes_init) (defScope s_Notes_init) [.ref (He.dflAt ("Notes", some "__init__") 0 K)] [] (He.fAd K ("Notes", some "__init__")) fd ∧ Binds K fd ["self", "board", "facts"] [] := by
  obtain ⟨fd, F⟩ := c
  have F2 : FunD K "__init__" "Notes.__init__" (defArgs s_Notes_init) (defBody s_Notes_init) (defScope s_Notes_init) [.ref (He.dflAt ("Notes", some "__init__") 0 K)] [] (He.fAd K ("Notes", some "__init__")) fd := F
  obtain ⟨ds, h1, h2⟩ := FunD.binds1 (ps := ["self", "board", "facts"]) F2 3 1 (by simp) rfl fun T kV doc pm an cdv ct us its l1 l2 => match us, its, l1, l2 with | [_, _, _], [_], _, _ => ⟨_, rfl, rfl⟩
  cases h1
  exact ⟨fd, F, h2⟩
def df_notes_told : DfA := ⟨fun K => He.fAd K ("notes_told", none), "notes_told", "notes_told", s_notes_told, fun K => []⟩
theorem fa_notes_told {K : FK} {w : World} (c : ∃ fd, FunD K df_notes_told.name df_notes_told.qual (defArgs df_notes_told.st) (defBody df_notes_told.st) (defScope df_notes_told.st) (df_notes_told.dv K) [] (df_notes_told.at_ K) fd) : ∃ fd, FunD K "notes_told" "notes_told" (defArgs s_notes_told) (defBody s_notes_told) (defScope s_notes_told) [] [] (He.fAd K ("notes_told", none)) fd ∧ Binds K fd ["text"] [] := by
  obtain ⟨fd, F⟩ := c
  exact ⟨fd, F, FunD.bindsN (ps := ["text"]) F fun _ _ _ _ _ _ us hl => match us, hl with | [_], _ => rfl⟩
def df_read_notes : DfA := ⟨fun K => He.fAd K ("read_notes", none), "read_notes", "read_notes", s_read_notes, fun K => []⟩
theorem fa_read_notes {K : FK} {w : World} (c : ∃ fd, FunD K df_read_notes.name df_read_notes.qual (defArgs df_read_notes.st) (defBody df_read_notes.st) (defScope df_read_notes.st) (df_read_notes.dv K) [] (df_read_notes.at_ K) fd) : ∃ fd, FunD K "read_notes" "read_notes" (defArgs s_read_notes) (defBody s_read_notes) (defScope s_read_notes) [] [] (He.fAd K ("read_notes", none)) fd ∧ Binds K fd ["text"] [] := by
  obtain ⟨fd, F⟩ := c
  exact ⟨fd, F, FunD.bindsN (ps := ["text"]) F fun _ _ _ _ _ _ us hl => match us, hl with | [_], _ => rfl⟩
def df_is_empty : DfA := ⟨fun K => He.fAd K ("is_empty", none), "is_empty", "is_empty", s_is_empty, fun K => []⟩
theorem fa_is_empty {K : FK} {w : World} (c : ∃ fd, FunD K df_is_empty.name df_is_empty.qual (defArgs df_is_empty.st) (defBody df_is_empty.st) (defScope df_is_empty.st) (df_is_empty.dv K) [] (df_is_empty.at_ K) fd) : ∃ fd, FunD K "is_empty" "is_empty" (defArgs s_is_empty) (defBody s_is_empty) (defScope s_is_empty) [] [] (He.fAd K ("is_empty", none)) fd ∧ Binds K fd ["certificate"] [] := by
  obtain ⟨fd, F⟩ := c
  exact ⟨fd, F, FunD.bindsN (ps := ["certificate"]) F fun _ _ _ _ _ _ us hl => match us, hl with | [_], _ => rfl⟩
def df_Notes_board : DfA := ⟨fun K => pgA K "Notes" "board", "board", "Notes.board", s_Notes_board, fun K => []⟩
theorem fa_Notes_board {K : FK} {w : World} (c : ∃ fd, FunD K df_Notes_board.name df_Notes_board.qual (defArgs df_Notes_board.st) (defBody df_Notes_board.st) (defScope df_Notes_board.st) (df_Notes_board.dv K) [] (df_Notes_board.at_ K) fd) : ∃ fd, FunD K "board" "Notes.board" (defArgs s_Notes_board) (defBody s_Notes_board) (defScope s_Notes_board) [] [] (pgA K "Notes" "board") fd ∧ Binds K fd ["self"] [] := by
  obtain ⟨fd, F⟩ := c
  exact ⟨fd, F, FunD.bindsN (ps := ["self"]) F fun _ _ _ _ _ _ us hl => match us, hl with | [_], _ => rfl⟩
def df_Board_whole : DfA := ⟨fun K => pgA K "Board" "whole", "whole", "Board.whole", s_Board_whole, fun K => []⟩
theorem fa_Board_whole {K : FK} {w : World} (c : ∃ fd, FunD K df_Board_whole.name df_Board_whole.qual (defArgs df_Board_whole.st) (defBody df_Board_whole.st) (defScope df_Board_whole.st) (df_Board_whole.dv K) [] (df_Board_whole.at_ K) fd) : ∃ fd, FunD K "whole" "Board.whole" (defArgs s_Board_whole) (defBody s_Board_whole) (defScope s_Board_whole) [] [] (pgA K "Board" "whole") fd ∧ Binds K fd ["self"] [] := by
  obtain ⟨fd, F⟩ := c
  exact ⟨fd, F, FunD.bindsN (ps := ["self"]) F fun _ _ _ _ _ _ us hl => match us, hl with | [_], _ => rfl⟩
def df_Board_settings : DfA := ⟨fun K => pgA K "Board" "settings", "settings", "Board.settings", s_Board_settings, fun K => []⟩
theorem fa_Board_settings {K : FK} {w : World} (c : ∃ fd, FunD K df_Board_settings.name df_Board_settings.qual (defArgs df_Board_settings.st) (defBody df_Board_settings.st) (defScope df_Board_settings.st) (df_Board_settings.dv K) [] (df_Board_settings.at_ K) fd) : ∃ fd, FunD K "settings" "Board.settings" (defArgs s_Board_settings) (defBody s_Board_settings) (defScope s_Board_settings) [] [] (pgA K "Board" "settings") fd ∧ Binds K fd ["self"] [] := by
  obtain ⟨fd, F⟩ := c
  exact ⟨fd, F, FunD.bindsN (ps := ["self"]) F fun _ _ _ _ _ _ us hl => match us, hl with | [_], _ => rfl⟩
def df_reached_from : DfA := ⟨fun K => He.fAd K ("reached_from", none), "reached_from", "reached_from", s_reached_from, fun K => []⟩
theorem fa_reached_from {K : FK} {w : World} (c : ∃ fd, FunD K df_reached_from.name df_reached_from.qual (defArgs df_reached_from.st) (defBody df_reached_from.st) (defScope df_reached_from.st) (df_reached_from.dv K) [] (df_reached_from.at_ K) fd) : ∃ fd, FunD K "reached_from" "reached_from" (defArgs s_reached_from) (defBody s_reached_from) (defScope s_reached_from) [] [] (He.fAd K ("reached_from", none)) fd ∧ Binds K fd ["facts", "start"] [] := by
  obtain ⟨fd, F⟩ := c
  exact ⟨fd, F, FunD.bindsN (ps := ["facts", "start"]) F fun _ _ _ _ _ _ us hl => match us, hl with | [_, _], _ => rfl⟩
def df_Notes_facts : DfA := ⟨fun K => pgA K "Notes" "facts", "facts", "Notes.facts", s_Notes_facts, fun K => []⟩
theorem fa_Notes_facts {K : FK} {w : World} (c : ∃ fd, FunD K df_Notes_facts.name df_Notes_facts.qual (defArgs df_Notes_facts.st) (defBody df_Notes_facts.st) (defScope df_Notes_facts.st) (df_Notes_facts.dv K) [] (df_Notes_facts.at_ K) fd) : ∃ fd, FunD K "facts" "Notes.facts" (defArgs s_Notes_facts) (defBody s_Notes_facts) (defScope s_Notes_facts) [] [] (pgA K "Notes" "facts") fd ∧ Binds K fd ["self"] [] := by
  obtain ⟨fd, F⟩ := c
  exact ⟨fd, F, FunD.bindsN (ps := ["self"]) F fun _ _ _ _ _ _ us hl => match us, hl with | [_], _ => rfl⟩
def df_leads_to_some : DfA := ⟨fun K => He.fAd K ("leads_to_some", none), "leads_to_some", "leads_to_some", s_leads_to_some, fun K => []⟩
theorem fa_leads_to_some {K : FK} {w : World} (c : ∃ fd, FunD K df_leads_to_some.name df_leads_to_some.qual (defArgs df_leads_to_some.st) (defBody df_leads_to_some.st) (defScope df_leads_to_some.st) (df_leads_to_some.dv K) [] (df_leads_to_some.at_ K) fd) : ∃ fd, FunD K "leads_to_some" "leads_to_some" (defArgs s_leads_to_some) (defBody s_leads_to_some) (defScope s_leads_to_some) [] [] (He.fAd K ("leads_to_some", none)) fd ∧ Binds K fd ["notes", "start", "goals"] [] := by
  obtain ⟨fd, F⟩ := c
  exact ⟨fd, F, FunD.bindsN (ps := ["notes", "start", "goals"]) F fun _ _ _ _ _ _ us hl => match us, hl with | [_, _, _], _ => rfl⟩
def df_turned_to : DfA := ⟨fun K => He.fAd K ("turned_to", none), "turned_to", "turned_to", s_turned_to, fun K => []⟩
theorem fa_turned_to {K : FK} {w : World} (c : ∃ fd, FunD K df_turned_to.name df_turned_to.qual (defArgs df_turned_to.st) (defBody df_turned_to.st) (defScope df_turned_to.st) (df_turned_to.dv K) [] (df_turned_to.at_ K) fd) : ∃ fd, FunD K "turned_to" "turned_to" (defArgs s_turned_to) (defBody s_turned_to) (defScope s_turned_to) [] [] (He.fAd K ("turned_to", none)) fd ∧ Binds K fd ["setting", "switch", "stand"] [] := by
  obtain ⟨fd, F⟩ := c
  exact ⟨fd, F, FunD.bindsN (ps := ["setting", "switch", "stand"]) F fun _ _ _ _ _ _ us hl => match us, hl with | [_, _, _], _ => rfl⟩
def df_beside_part : DfA := ⟨fun K => He.fAd K ("beside_part", none), "beside_part", "beside_part", s_beside_part, fun K => []⟩
theorem fa_beside_part {K : FK} {w : World} (c : ∃ fd, FunD K df_beside_part.name df_beside_part.qual (defArgs df_beside_part.st) (defBody df_beside_part.st) (defScope df_beside_part.st) (df_beside_part.dv K) [] (df_beside_part.at_ K) fd) : ∃ fd, FunD K "beside_part" "beside_part" (defArgs s_beside_part) (defBody s_beside_part) (defScope s_beside_part) [] [] (He.fAd K ("beside_part", none)) fd ∧ Binds K fd ["part", "setting"] [] := by
  obtain ⟨fd, F⟩ := c
  exact ⟨fd, F, FunD.bindsN (ps := ["part", "setting"]) F fun _ _ _ _ _ _ us hl => match us, hl with | [_, _], _ => rfl⟩
def df_can_both : DfA := ⟨fun K => He.fAd K ("can_both", none), "can_both", "can_both", s_can_both, fun K => []⟩
theorem fa_can_both {K : FK} {w : World} (c : ∃ fd, FunD K df_can_both.name df_can_both.qual (defArgs df_can_both.st) (defBody df_can_both.st) (defScope df_can_both.st) (df_can_both.dv K) [] (df_can_both.at_ K) fd) : ∃ fd, FunD K "can_both" "can_both" (defArgs s_can_both) (defBody s_can_both) (defScope s_can_both) [] [] (He.fAd K ("can_both", none)) fd ∧ Binds K fd ["notes", "one", "other"] [] := by
  obtain ⟨fd, F⟩ := c
  exact ⟨fd, F, FunD.bindsN (ps := ["notes", "one", "other"]) F fun _ _ _ _ _ _ us hl => match us, hl with | [_, _, _], _ => rfl⟩
def df_can_be_two : DfA := ⟨fun K => He.fAd K ("can_be_two", none), "can_be_two", "can_be_two", s_can_be_two, fun K => []⟩
theorem fa_can_be_two {K : FK} {w : World} (c : ∃ fd, FunD K df_can_be_two.name df_can_be_two.qual (defArgs df_can_be_two.st) (defBody df_can_be_two.st) (defScope df_can_be_two.st) (df_can_be_two.dv K) [] (df_can_be_two.at_ K) fd) : ∃ fd, FunD K "can_be_two" "can_be_two" (defArgs s_can_be_two) (defBody s_can_be_two) (defScope s_can_be_two) [] [] (He.fAd K ("can_be_two", none)) fd ∧ Binds K fd ["notes"] [] := by
  obtain ⟨fd, F⟩ := c
  exact ⟨fd, F, FunD.bindsN (ps := ["notes"]) F fun _ _ _ _ _ _ us hl => match us, hl with | [_], _ => rfl⟩
def s_InvalidOrder_init : Stmt := inner (top 12) 0
theorem sc_InvalidOrder_init : FnScope ["self", "index"] ["self", "index"] (defScope s_InvalidOrder_init) := ⟨rfl, rfl, rfl, by decide +kernel, rfl, by decide +kernel, by decide +kernel⟩
def df_InvalidOrder : DfA := ⟨fun K => He.fAd K ("InvalidOrder", some "__init__"), "__init__", "InvalidOrder.__init__", s_InvalidOrder_init, fun K => []⟩
theorem fx_InvalidOrder {P : Program} {w : World} {K : FK} {mg : Str → Option Value} {base : Heap} (h : cOex "InvalidOrder" "index" K = true) (c : ∃ fd, FunD K df_InvalidOrder.name df_InvalidOrder.qual (defArgs df_InvalidOrder.st) (defBody df_InvalidOrder.st) (defScope df_InvalidOrder.st) (df_InvalidOrder.dv K) [] (df_InvalidOrder.at_ K) fd) : ExC P w K mg base (WK K) "InvalidOrder" "index" := by
  obtain ⟨fd, F⟩ := c
  exact exC_of h F rfl sc_InvalidOrder_init (.inl rfl) (.inl rfl) (by decide) (by decide) (FunD.bindsN (ps := ["self", "index"]) F fun _ _ _ _ _ _ us hl => match us, hl with | [_, _], _ => rfl)
def df_Board_len : DfA := ⟨fun K => He.fAd K ("Board", some "__len__"), "__len__", "Board.__len__", s_Board_len, fun K => []⟩
theorem fa_Board_len {K : FK} {w : World} (c : ∃ fd, FunD K df_Board_len.name df_Board_len.qual (defArgs df_Board_len.st) (defBody df_Board_len.st) (defScope df_Board_len.st) (df_Board_len.dv K) [] (df_Board_len.at_ K) fd) : ∃ fd, FunD K "__len__" "Board.__len__" (defArgs s_Board_len) (defBody s_Board_len) (defScope s_Board_len) [] [] (He.fAd K ("Board", some "__len__")) fd ∧ Binds K fd ["self"] [] := by
  obtain ⟨fd, F⟩ := c
  exact ⟨fd, F, FunD.bindsN (ps := ["self"]) F fun _ _ _ _ _ _ us hl => match us, hl with | [_], _ => rfl⟩
def df_check_order : DfA := ⟨fun K => He.fAd K ("check_order", none), "check_order", "check_order", s_check_order, fun K => []⟩
theorem fa_check_order {K : FK} {w : World} (c : ∃ fd, FunD K df_check_order.name df_check_order.qual (defArgs df_check_order.st) (defBody df_check_order.st) (defScope df_check_order.st) (df_check_order.dv K) [] (df_check_order.at_ K) fd) : ∃ fd, FunD K "check_order" "check_order" (defArgs s_check_order) (defBody s_check_order) (defScope s_check_order) [] [] (He.fAd K ("check_order", none)) fd ∧ Binds K fd ["board", "order"] [] := by
  obtain ⟨fd, F⟩ := c
  exact ⟨fd, F, FunD.bindsN (ps := ["board", "order"]) F fun _ _ _ _ _ _ us hl => match us, hl with | [_, _], _ => rfl⟩
def df_is_order : DfA := ⟨fun K => He.fAd K ("is_order", none), "is_order", "is_order", s_is_order, fun K => []⟩
theorem fa_is_order {K : FK} {w : World} (c : ∃ fd, FunD K df_is_order.name df_is_order.qual (defArgs df_is_order.st) (defBody df_is_order.st) (defScope df_is_order.st) (df_is_order.dv K) [] (df_is_order.at_ K) fd) : ∃ fd, FunD K "is_order" "is_order" (defArgs s_is_order) (defBody s_is_order) (defScope s_is_order) [] [] (He.fAd K ("is_order", none)) fd ∧ Binds K fd ["board", "value"] [] := by
  obtain ⟨fd, F⟩ := c
  exact ⟨fd, F, FunD.bindsN (ps := ["board", "value"]) F fun _ _ _ _ _ _ us hl => match us, hl with | [_, _], _ => rfl⟩
def df_does_fit : DfA := ⟨fun K => He.fAd K ("does_fit", none), "does_fit", "does_fit", s_does_fit, fun K => []⟩
theorem fa_does_fit {K : FK} {w : World} (c : ∃ fd, FunD K df_does_fit.name df_does_fit.qual (defArgs df_does_fit.st) (defBody df_does_fit.st) (defScope df_does_fit.st) (df_does_fit.dv K) [] (df_does_fit.at_ K) fd) : ∃ fd, FunD K "does_fit" "does_fit" (defArgs s_does_fit) (defBody s_does_fit) (defScope s_does_fit) [] [] (He.fAd K ("does_fit", none)) fd ∧ Binds K fd ["facts", "order"] [] := by
  obtain ⟨fd, F⟩ := c
  exact ⟨fd, F, FunD.bindsN (ps := ["facts", "order"]) F fun _ _ _ _ _ _ us hl => match us, hl with | [_, _], _ => rfl⟩
def df_is_fitting : DfA := ⟨fun K => He.fAd K ("is_fitting", none), "is_fitting", "is_fitting", s_is_fitting, fun K => []⟩
theorem fa_is_fitting {K : FK} {w : World} (c : ∃ fd, FunD K df_is_fitting.name df_is_fitting.qual (defArgs df_is_fitting.st) (defBody df_is_fitting.st) (defScope df_is_fitting.st) (df_is_fitting.dv K) [] (df_is_fitting.at_ K) fd) : ∃ fd, FunD K "is_fitting" "is_fitting" (defArgs s_is_fitting) (defBody s_is_fitting) (defScope s_is_fitting) [] [] (He.fAd K ("is_fitting", none)) fd ∧ Binds K fd ["notes", "order"] [] := by
  obtain ⟨fd, F⟩ := c
  exact ⟨fd, F, FunD.bindsN (ps := ["notes", "order"]) F fun _ _ _ _ _ _ us hl => match us, hl with | [_, _], _ => rfl⟩
def df_peaks_by : DfA := ⟨fun K => He.fAd K ("peaks_by", none), "peaks_by", "peaks_by", s_peaks_by, fun K => []⟩
theorem fa_peaks_by {K : FK} {w : World} (c : ∃ fd, FunD K df_peaks_by.name df_peaks_by.qual (defArgs df_peaks_by.st) (defBody df_peaks_by.st) (defScope df_peaks_by.st) (df_peaks_by.dv K) [] (df_peaks_by.at_ K) fd) : ∃ fd, FunD K "peaks_by" "peaks_by" (defArgs s_peaks_by) (defBody s_peaks_by) (defScope s_peaks_by) [] [] (He.fAd K ("peaks_by", none)) fd ∧ Binds K fd ["order", "part"] [] := by
  obtain ⟨fd, F⟩ := c
  exact ⟨fd, F, FunD.bindsN (ps := ["order", "part"]) F fun _ _ _ _ _ _ us hl => match us, hl with | [_, _], _ => rfl⟩
def df_squares_of : DfA := ⟨fun K => He.fAd K ("squares_of", none), "squares_of", "squares_of", s_squares_of, fun K => []⟩
theorem fa_squares_of {K : FK} {w : World} (c : ∃ fd, FunD K df_squares_of.name df_squares_of.qual (defArgs df_squares_of.st) (defBody df_squares_of.st) (defScope df_squares_of.st) (df_squares_of.dv K) [] (df_squares_of.at_ K) fd) : ∃ fd, FunD K "squares_of" "squares_of" (defArgs s_squares_of) (defBody s_squares_of) (defScope s_squares_of) [] [] (He.fAd K ("squares_of", none)) fd ∧ Binds K fd ["board"] [] := by
  obtain ⟨fd, F⟩ := c
  exact ⟨fd, F, FunD.bindsN (ps := ["board"]) F fun _ _ _ _ _ _ us hl => match us, hl with | [_], _ => rfl⟩
def df_kind_by : DfA := ⟨fun K => He.fAd K ("kind_by", none), "kind_by", "kind_by", s_kind_by, fun K => []⟩
theorem fa_kind_by {K : FK} {w : World} (c : ∃ fd, FunD K df_kind_by.name df_kind_by.qual (defArgs df_kind_by.st) (defBody df_kind_by.st) (defScope df_kind_by.st) (df_kind_by.dv K) [] (df_kind_by.at_ K) fd) : ∃ fd, FunD K "kind_by" "kind_by" (defArgs s_kind_by) (defBody s_kind_by) (defScope s_kind_by) [] [] (He.fAd K ("kind_by", none)) fd ∧ Binds K fd ["order", "square"] [] := by
  obtain ⟨fd, F⟩ := c
  exact ⟨fd, F, FunD.bindsN (ps := ["order", "square"]) F fun _ _ _ _ _ _ us hl => match us, hl with | [_, _], _ => rfl⟩
def df_is_rough : DfA := ⟨fun K => He.fAd K ("is_rough", none), "is_rough", "is_rough", s_is_rough, fun K => []⟩
theorem fa_is_rough {K : FK} {w : World} (c : ∃ fd, FunD K df_is_rough.name df_is_rough.qual (defArgs df_is_rough.st) (defBody df_is_rough.st) (defScope df_is_rough.st) (df_is_rough.dv K) [] (df_is_rough.at_ K) fd) : ∃ fd, FunD K "is_rough" "is_rough" (defArgs s_is_rough) (defBody s_is_rough) (defScope s_is_rough) [] [] (He.fAd K ("is_rough", none)) fd ∧ Binds K fd ["notes", "certificate"] [] := by
  obtain ⟨fd, F⟩ := c
  exact ⟨fd, F, FunD.bindsN (ps := ["notes", "certificate"]) F fun _ _ _ _ _ _ us hl => match us, hl with | [_, _], _ => rfl⟩
def df_can_cross : DfA := ⟨fun K => He.fAd K ("can_cross", none), "can_cross", "can_cross", s_can_cross, fun K => []⟩
theorem fa_can_cross {K : FK} {w : World} (c : ∃ fd, FunD K df_can_cross.name df_can_cross.qual (defArgs df_can_cross.st) (defBody df_can_cross.st) (defScope df_can_cross.st) (df_can_cross.dv K) [] (df_can_cross.at_ K) fd) : ∃ fd, FunD K "can_cross" "can_cross" (defArgs s_can_cross) (defBody s_can_cross) (defScope s_can_cross) [] [] (He.fAd K ("can_cross", none)) fd ∧ Binds K fd ["notes", "square"] [] := by
  obtain ⟨fd, F⟩ := c
  exact ⟨fd, F, FunD.bindsN (ps := ["notes", "square"]) F fun _ _ _ _ _ _ us hl => match us, hl with | [_, _], _ => rfl⟩
def df_accepts_whole : DfA := ⟨fun K => He.fAd K ("accepts_whole", none), "accepts_whole", "accepts_whole", s_accepts_whole, fun K => []⟩
theorem fa_accepts_whole {K : FK} {w : World} (c : ∃ fd, FunD K df_accepts_whole.name df_accepts_whole.qual (defArgs df_accepts_whole.st) (defBody df_accepts_whole.st) (defScope df_accepts_whole.st) (df_accepts_whole.dv K) [] (df_accepts_whole.at_ K) fd) : ∃ fd, FunD K "accepts_whole" "accepts_whole" (defArgs s_accepts_whole) (defBody s_accepts_whole) (defScope s_accepts_whole) [] [] (He.fAd K ("accepts_whole", none)) fd ∧ Binds K fd ["word", "notes", "certificate"] [] := by
  obtain ⟨fd, F⟩ := c
  exact ⟨fd, F, FunD.bindsN (ps := ["word", "notes", "certificate"]) F fun _ _ _ _ _ _ us hl => match us, hl with | [_, _, _], _ => rfl⟩
def df_is_way : DfA := ⟨fun K => He.fAd K ("is_way", none), "is_way", "is_way", s_is_way, fun K => []⟩
theorem fa_is_way {K : FK} {w : World} (c : ∃ fd, FunD K df_is_way.name df_is_way.qual (defArgs df_is_way.st) (defBody df_is_way.st) (defScope df_is_way.st) (df_is_way.dv K) [] (df_is_way.at_ K) fd) : ∃ fd, FunD K "is_way" "is_way" (defArgs s_is_way) (defBody s_is_way) (defScope s_is_way) [] [] (He.fAd K ("is_way", none)) fd ∧ Binds K fd ["notes", "row", "start", "goal"] [] := by
  obtain ⟨fd, F⟩ := c
  exact ⟨fd, F, FunD.bindsN (ps := ["notes", "row", "start", "goal"]) F fun _ _ _ _ _ _ us hl => match us, hl with | [_, _, _, _], _ => rfl⟩
def df_does_rise : DfA := ⟨fun K => He.fAd K ("does_rise", none), "does_rise", "does_rise", s_does_rise, fun K => []⟩
theorem fa_does_rise {K : FK} {w : World} (c : ∃ fd, FunD K df_does_rise.name df_does_rise.qual (defArgs df_does_rise.st) (defBody df_does_rise.st) (defScope df_does_rise.st) (df_does_rise.dv K) [] (df_does_rise.at_ K) fd) : ∃ fd, FunD K "does_rise" "does_rise" (defArgs s_does_rise) (defBody s_does_rise) (defScope s_does_rise) [] [] (He.fAd K ("does_rise", none)) fd ∧ Binds K fd ["notes", "order", "start", "goal"] [] := by
  obtain ⟨fd, F⟩ := c
  exact ⟨fd, F, FunD.bindsN (ps := ["notes", "order", "start", "goal"]) F fun _ _ _ _ _ _ us hl => match us, hl with | [_, _, _, _], _ => rfl⟩
def df_accepts_way : DfA := ⟨fun K => He.fAd K ("accepts_way", none), "accepts_way", "accepts_way", s_accepts_way, fun K => []⟩
theorem fa_accepts_way {K : FK} {w : World} (c : ∃ fd, FunD K df_accepts_way.name df_accepts_way.qual (defArgs df_accepts_way.st) (defBody df_accepts_way.st) (defScope df_accepts_way.st) (df_accepts_way.dv K) [] (df_accepts_way.at_ K) fd) : ∃ fd, FunD K "accepts_way" "accepts_way" (defArgs s_accepts_way) (defBody s_accepts_way) (defScope s_accepts_way) [] [] (He.fAd K ("accepts_way", none)) fd ∧ Binds K fd ["word", "notes", "claim", "certificate"] [] := by
  obtain ⟨fd, F⟩ := c
  exact ⟨fd, F, FunD.bindsN (ps := ["word", "notes", "claim", "certificate"]) F fun _ _ _ _ _ _ us hl => match us, hl with | [_, _, _, _], _ => rfl⟩
def df_is_lot_checker : DfA := ⟨fun K => He.fAd K ("is_lot_checker", none), "is_lot", "is_lot", s_is_lot_checker, fun K => []⟩
theorem fa_is_lot_checker {K : FK} {w : World} (c : ∃ fd, FunD K df_is_lot_checker.name df_is_lot_checker.qual (defArgs df_is_lot_checker.st) (defBody df_is_lot_checker.st) (defScope df_is_lot_checker.st) (df_is_lot_checker.dv K) [] (df_is_lot_checker.at_ K) fd) : ∃ fd, FunD K "is_lot" "is_lot" (defArgs s_is_lot_checker) (defBody s_is_lot_checker) (defScope s_is_lot_checker) [] [] (He.fAd K ("is_lot_checker", none)) fd ∧ Binds K fd ["board", "peaks"] [] := by
  obtain ⟨fd, F⟩ := c
  exact ⟨fd, F, FunD.bindsN (ps := ["board", "peaks"]) F fun _ _ _ _ _ _ us hl => match us, hl with | [_, _], _ => rfl⟩
def df_told_peaks : DfA := ⟨fun K => He.fAd K ("told_peaks", none), "told_peaks", "told_peaks", s_told_peaks, fun K => []⟩
theorem fa_told_peaks {K : FK} {w : World} (c : ∃ fd, FunD K df_told_peaks.name df_told_peaks.qual (defArgs df_told_peaks.st) (defBody df_told_peaks.st) (defScope df_told_peaks.st) (df_told_peaks.dv K) [] (df_told_peaks.at_ K) fd) : ∃ fd, FunD K "told_peaks" "told_peaks" (defArgs s_told_peaks) (defBody s_told_peaks) (defScope s_told_peaks) [] [] (He.fAd K ("told_peaks", none)) fd ∧ Binds K fd ["notes", "peaks"] [] := by
  obtain ⟨fd, F⟩ := c
  exact ⟨fd, F, FunD.bindsN (ps := ["notes", "peaks"]) F fun _ _ _ _ _ _ us hl => match us, hl with | [_, _], _ => rfl⟩
def df_can_be_all : DfA := ⟨fun K => He.fAd K ("can_be_all", none), "can_be_all", "can_be_all", s_can_be_all, fun K => []⟩
theorem fa_can_be_all {K : FK} {w : World} (c : ∃ fd, FunD K df_can_be_all.name df_can_be_all.qual (defArgs df_can_be_all.st) (defBody df_can_be_all.st) (defScope df_can_be_all.st) (df_can_be_all.dv K) [] (df_can_be_all.at_ K) fd) : ∃ fd, FunD K "can_be_all" "can_be_all" (defArgs s_can_be_all) (defBody s_can_be_all) (defScope s_can_be_all) [] [] (He.fAd K ("can_be_all", none)) fd ∧ Binds K fd ["notes", "peaks"] [] := by
  obtain ⟨fd, F⟩ := c
  exact ⟨fd, F, FunD.bindsN (ps := ["notes", "peaks"]) F fun _ _ _ _ _ _ us hl => match us, hl with | [_, _], _ => rfl⟩
def df_accepts_peaks : DfA := ⟨fun K => He.fAd K ("accepts_peaks", none), "accepts_peaks", "accepts_peaks", s_accepts_peaks, fun K => []⟩
theorem fa_accepts_peaks {K : FK} {w : World} (c : ∃ fd, FunD K df_accepts_peaks.name df_accepts_peaks.qual (defArgs df_accepts_peaks.st) (defBody df_accepts_peaks.st) (defScope df_accepts_peaks.st) (df_accepts_peaks.dv K) [] (df_accepts_peaks.at_ K) fd) : ∃ fd, FunD K "accepts_peaks" "accepts_peaks" (defArgs s_accepts_peaks) (defBody s_accepts_peaks) (defScope s_accepts_peaks) [] [] (He.fAd K ("accepts_peaks", none)) fd ∧ Binds K fd ["word", "notes", "peaks", "certificate"] [] := by
  obtain ⟨fd, F⟩ := c
  exact ⟨fd, F, FunD.bindsN (ps := ["word", "notes", "peaks", "certificate"]) F fun _ _ _ _ _ _ us hl => match us, hl with | [_, _, _, _], _ => rfl⟩
def df_accepts : DfA := ⟨fun K => He.fAd K ("accepts", none), "accepts", "accepts", s_accepts, fun K => []⟩
theorem fa_accepts {K : FK} {w : World} (c : ∃ fd, FunD K df_accepts.name df_accepts.qual (defArgs df_accepts.st) (defBody df_accepts.st) (defScope df_accepts.st) (df_accepts.dv K) [] (df_accepts.at_ K) fd) : ∃ fd, FunD K "accepts" "accepts" (defArgs s_accepts) (defBody s_accepts) (defScope s_accepts) [] [] (He.fAd K ("accepts", none)) fd ∧ Binds K fd ["claim", "certificate"] [] := by
  obtain ⟨fd, F⟩ := c
  exact ⟨fd, F, FunD.bindsN (ps := ["claim", "certificate"]) F fun _ _ _ _ _ _ us hl => match us, hl with | [_, _], _ => rfl⟩
def df__law_take : DfA := ⟨fun K => He.fAd K ("_law_take", none), "_law_take", "_law_take", s__law_take, fun K => []⟩
theorem fa__law_take {K : FK} {w : World} (c : ∃ fd, FunD K df__law_take.name df__law_take.qual (defArgs df__law_take.st) (defBody df__law_take.st) (defScope df__law_take.st) (df__law_take.dv K) [] (df__law_take.at_ K) fd) : ∃ fd, FunD K "_law_take" "_law_take" (defArgs s__law_take) (defBody s__law_take) (defScope s__law_take) [] [] (He.fAd K ("_law_take", none)) fd ∧ Binds K fd ["bag", "many"] [] := by
  obtain ⟨fd, F⟩ := c
  exact ⟨fd, F, FunD.bindsN (ps := ["bag", "many"]) F fun _ _ _ _ _ _ us hl => match us, hl with | [_, _], _ => rfl⟩
def df__law_of : DfA := ⟨fun K => He.fAd K ("_law_of", none), "_law_of", "_law_of", s__law_of, fun K => []⟩
theorem fa__law_of {K : FK} {w : World} (c : ∃ fd, FunD K df__law_of.name df__law_of.qual (defArgs df__law_of.st) (defBody df__law_of.st) (defScope df__law_of.st) (df__law_of.dv K) [] (df__law_of.at_ K) fd) : ∃ fd, FunD K "_law_of" "_law_of" (defArgs s__law_of) (defBody s__law_of) (defScope s__law_of) [] [] (He.fAd K ("_law_of", none)) fd ∧ Binds K fd ["bag", "things"] [] := by
  obtain ⟨fd, F⟩ := c
  exact ⟨fd, F, FunD.bindsN (ps := ["bag", "things"]) F fun _ _ _ _ _ _ us hl => match us, hl with | [_, _], _ => rfl⟩
def df__law_spread : DfA := ⟨fun K => He.fAd K ("_law_spread", none), "_law_spread", "_law_spread", s__law_spread, fun K => []⟩
theorem fa__law_spread {K : FK} {w : World} (c : ∃ fd, FunD K df__law_spread.name df__law_spread.qual (defArgs df__law_spread.st) (defBody df__law_spread.st) (defScope df__law_spread.st) (df__law_spread.dv K) [] (df__law_spread.at_ K) fd) : ∃ fd, FunD K "_law_spread" "_law_spread" (defArgs s__law_spread) (defBody s__law_spread) (defScope s__law_spread) [] [] (He.fAd K ("_law_spread", none)) fd ∧ Binds K fd ["text_here"] [] := by
  obtain ⟨fd, F⟩ := c
  exact ⟨fd, F, FunD.bindsN (ps := ["text_here"]) F fun _ _ _ _ _ _ us hl => match us, hl with | [_], _ => rfl⟩
def df__law_mixed : DfA := ⟨fun K => He.fAd K ("_law_mixed", none), "_law_mixed", "_law_mixed", s__law_mixed, fun K => []⟩
theorem fa__law_mixed {K : FK} {w : World} (c : ∃ fd, FunD K df__law_mixed.name df__law_mixed.qual (defArgs df__law_mixed.st) (defBody df__law_mixed.st) (defScope df__law_mixed.st) (df__law_mixed.dv K) [] (df__law_mixed.at_ K) fd) : ∃ fd, FunD K "_law_mixed" "_law_mixed" (defArgs s__law_mixed) (defBody s__law_mixed) (defScope s__law_mixed) [] [] (He.fAd K ("_law_mixed", none)) fd ∧ Binds K fd ["bag", "things"] [] := by
  obtain ⟨fd, F⟩ := c
  exact ⟨fd, F, FunD.bindsN (ps := ["bag", "things"]) F fun _ _ _ _ _ _ us hl => match us, hl with | [_, _], _ => rfl⟩
def df__law_apart : DfA := ⟨fun K => He.fAd K ("_law_apart", none), "_law_apart", "_law_apart", s__law_apart, fun K => []⟩
theorem fa__law_apart {K : FK} {w : World} (c : ∃ fd, FunD K df__law_apart.name df__law_apart.qual (defArgs df__law_apart.st) (defBody df__law_apart.st) (defScope df__law_apart.st) (df__law_apart.dv K) [] (df__law_apart.at_ K) fd) : ∃ fd, FunD K "_law_apart" "_law_apart" (defArgs s__law_apart) (defBody s__law_apart) (defScope s__law_apart) [] [] (He.fAd K ("_law_apart", none)) fd ∧ Binds K fd ["one", "two"] [] := by
  obtain ⟨fd, F⟩ := c
  exact ⟨fd, F, FunD.bindsN (ps := ["one", "two"]) F fun _ _ _ _ _ _ us hl => match us, hl with | [_, _], _ => rfl⟩
def df__law_seen : DfA := ⟨fun K => He.fAd K ("_law_seen", none), "_law_seen", "_law_seen", s__law_seen, fun K => []⟩
theorem fa__law_seen {K : FK} {w : World} (c : ∃ fd, FunD K df__law_seen.name df__law_seen.qual (defArgs df__law_seen.st) (defBody df__law_seen.st) (defScope df__law_seen.st) (df__law_seen.dv K) [] (df__law_seen.at_ K) fd) : ∃ fd, FunD K "_law_seen" "_law_seen" (defArgs s__law_seen) (defBody s__law_seen) (defScope s__law_seen) [] [] (He.fAd K ("_law_seen", none)) fd ∧ Binds K fd ["bag", "line"] [] := by
  obtain ⟨fd, F⟩ := c
  exact ⟨fd, F, FunD.bindsN (ps := ["bag", "line"]) F fun _ _ _ _ _ _ us hl => match us, hl with | [_, _], _ => rfl⟩
def df__law_world : DfA := ⟨fun K => He.fAd K ("_law_world", none), "_law_world", "_law_world", s__law_world, fun K => []⟩
theorem fa__law_world {K : FK} {w : World} (c : ∃ fd, FunD K df__law_world.name df__law_world.qual (defArgs df__law_world.st) (defBody df__law_world.st) (defScope df__law_world.st) (df__law_world.dv K) [] (df__law_world.at_ K) fd) : ∃ fd, FunD K "_law_world" "_law_world" (defArgs s__law_world) (defBody s__law_world) (defScope s__law_world) [] [] (He.fAd K ("_law_world", none)) fd ∧ Binds K fd ["bag", "menu"] [] := by
  obtain ⟨fd, F⟩ := c
  exact ⟨fd, F, FunD.bindsN (ps := ["bag", "menu"]) F fun _ _ _ _ _ _ us hl => match us, hl with | [_, _], _ => rfl⟩
def df__law_sheet : DfA := ⟨fun K => He.fAd K ("_law_sheet", none), "_law_sheet", "_law_sheet", s__law_sheet, fun K => []⟩
theorem fa__law_sheet {K : FK} {w : World} (c : ∃ fd, FunD K df__law_sheet.name df__law_sheet.qual (defArgs df__law_sheet.st) (defBody df__law_sheet.st) (defScope df__law_sheet.st) (df__law_sheet.dv K) [] (df__law_sheet.at_ K) fd) : ∃ fd, FunD K "_law_sheet" "_law_sheet" (defArgs s__law_sheet) (defBody s__law_sheet) (defScope s__law_sheet) [] [] (He.fAd K ("_law_sheet", none)) fd ∧ Binds K fd ["text_here", "seen_here"] [] := by
  obtain ⟨fd, F⟩ := c
  exact ⟨fd, F, FunD.bindsN (ps := ["text_here", "seen_here"]) F fun _ _ _ _ _ _ us hl => match us, hl with | [_, _], _ => rfl⟩
def df__law_lines : DfA := ⟨fun K => He.fAd K ("_law_lines", none), "_law_lines", "_law_lines", s__law_lines, fun K => []⟩
theorem fa__law_lines {K : FK} {w : World} (c : ∃ fd, FunD K df__law_lines.name df__law_lines.qual (defArgs df__law_lines.st) (defBody df__law_lines.st) (defScope df__law_lines.st) (df__law_lines.dv K) [] (df__law_lines.at_ K) fd) : ∃ fd, FunD K "_law_lines" "_law_lines" (defArgs s__law_lines) (defBody s__law_lines) (defScope s__law_lines) [] [] (He.fAd K ("_law_lines", none)) fd ∧ Binds K fd ["all_here", "seen_here"] [] := by
  obtain ⟨fd, F⟩ := c
  exact ⟨fd, F, FunD.bindsN (ps := ["all_here", "seen_here"]) F fun _ _ _ _ _ _ us hl => match us, hl with | [_, _], _ => rfl⟩
def df__law_near : DfA := ⟨fun K => He.fAd K ("_law_near", none), "_law_near", "_law_near", s__law_near, fun K => []⟩
theorem fa__law_near {K : FK} {w : World} (c : ∃ fd, FunD K df__law_near.name df__law_near.qual (defArgs df__law_near.st) (defBody df__law_near.st) (defScope df__law_near.st) (df__law_near.dv K) [] (df__law_near.at_ K) fd) : ∃ fd, FunD K "_law_near" "_law_near" (defArgs s__law_near) (defBody s__law_near) (defScope s__law_near) [] [] (He.fAd K ("_law_near", none)) fd ∧ Binds K fd ["all_here", "one"] [] := by
  obtain ⟨fd, F⟩ := c
  exact ⟨fd, F, FunD.bindsN (ps := ["all_here", "one"]) F fun _ _ _ _ _ _ us hl => match us, hl with | [_, _], _ => rfl⟩
def df__law_tops : DfA := ⟨fun K => He.fAd K ("_law_tops", none), "_law_tops", "_law_tops", s__law_tops, fun K => []⟩
theorem fa__law_tops {K : FK} {w : World} (c : ∃ fd, FunD K df__law_tops.name df__law_tops.qual (defArgs df__law_tops.st) (defBody df__law_tops.st) (defScope df__law_tops.st) (df__law_tops.dv K) [] (df__law_tops.at_ K) fd) : ∃ fd, FunD K "_law_tops" "_law_tops" (defArgs s__law_tops) (defBody s__law_tops) (defScope s__law_tops) [] [] (He.fAd K ("_law_tops", none)) fd ∧ Binds K fd ["line", "lot"] [] := by
  obtain ⟨fd, F⟩ := c
  exact ⟨fd, F, FunD.bindsN (ps := ["line", "lot"]) F fun _ _ _ _ _ _ us hl => match us, hl with | [_, _], _ => rfl⟩
def df__law_said : DfA := ⟨fun K => He.fAd K ("_law_said", none), "_law_said", "_law_said", s__law_said, fun K => []⟩
theorem fa__law_said {K : FK} {w : World} (c : ∃ fd, FunD K df__law_said.name df__law_said.qual (defArgs df__law_said.st) (defBody df__law_said.st) (defScope df__law_said.st) (df__law_said.dv K) [] (df__law_said.at_ K) fd) : ∃ fd, FunD K "_law_said" "_law_said" (defArgs s__law_said) (defBody s__law_said) (defScope s__law_said) [] [] (He.fAd K ("_law_said", none)) fd ∧ Binds K fd ["asked", "proof_here", "due"] [] := by
  obtain ⟨fd, F⟩ := c
  exact ⟨fd, F, FunD.bindsN (ps := ["asked", "proof_here", "due"]) F fun _ _ _ _ _ _ us hl => match us, hl with | [_, _, _], _ => rfl⟩
def df__law_bent_line : DfA := ⟨fun K => He.fAd K ("_law_bent_line", none), "_law_bent_line", "_law_bent_line", s__law_bent_line, fun K => []⟩
theorem fa__law_bent_line {K : FK} {w : World} (c : ∃ fd, FunD K df__law_bent_line.name df__law_bent_line.qual (defArgs df__law_bent_line.st) (defBody df__law_bent_line.st) (defScope df__law_bent_line.st) (df__law_bent_line.dv K) [] (df__law_bent_line.at_ K) fd) : ∃ fd, FunD K "_law_bent_line" "_law_bent_line" (defArgs s__law_bent_line) (defBody s__law_bent_line) (defScope s__law_bent_line) [] [] (He.fAd K ("_law_bent_line", none)) fd ∧ Binds K fd ["bag", "line"] [] := by
  obtain ⟨fd, F⟩ := c
  exact ⟨fd, F, FunD.bindsN (ps := ["bag", "line"]) F fun _ _ _ _ _ _ us hl => match us, hl with | [_, _], _ => rfl⟩
def df__law_is_line : DfA := ⟨fun K => He.fAd K ("_law_is_line", none), "_law_is_line", "_law_is_line", s__law_is_line, fun K => []⟩
theorem fa__law_is_line {K : FK} {w : World} (c : ∃ fd, FunD K df__law_is_line.name df__law_is_line.qual (defArgs df__law_is_line.st) (defBody df__law_is_line.st) (defScope df__law_is_line.st) (df__law_is_line.dv K) [] (df__law_is_line.at_ K) fd) : ∃ fd, FunD K "_law_is_line" "_law_is_line" (defArgs s__law_is_line) (defBody s__law_is_line) (defScope s__law_is_line) [] [] (He.fAd K ("_law_is_line", none)) fd ∧ Binds K fd ["all_here", "thing"] [] := by
  obtain ⟨fd, F⟩ := c
  exact ⟨fd, F, FunD.bindsN (ps := ["all_here", "thing"]) F fun _ _ _ _ _ _ us hl => match us, hl with | [_, _], _ => rfl⟩
def df__law_fits : DfA := ⟨fun K => He.fAd K ("_law_fits", none), "_law_fits", "_law_fits", s__law_fits, fun K => []⟩
theorem fa__law_fits {K : FK} {w : World} (c : ∃ fd, FunD K df__law_fits.name df__law_fits.qual (defArgs df__law_fits.st) (defBody df__law_fits.st) (defScope df__law_fits.st) (df__law_fits.dv K) [] (df__law_fits.at_ K) fd) : ∃ fd, FunD K "_law_fits" "_law_fits" (defArgs s__law_fits) (defBody s__law_fits) (defScope s__law_fits) [] [] (He.fAd K ("_law_fits", none)) fd ∧ Binds K fd ["line", "seen_here"] [] := by
  obtain ⟨fd, F⟩ := c
  exact ⟨fd, F, FunD.bindsN (ps := ["line", "seen_here"]) F fun _ _ _ _ _ _ us hl => match us, hl with | [_, _], _ => rfl⟩
def df__law_right : DfA := ⟨fun K => He.fAd K ("_law_right", none), "_law_right", "_law_right", s__law_right, fun K => []⟩
theorem fa__law_right {K : FK} {w : World} (c : ∃ fd, FunD K df__law_right.name df__law_right.qual (defArgs df__law_right.st) (defBody df__law_right.st) (defScope df__law_right.st) (df__law_right.dv K) [] (df__law_right.at_ K) fd) : ∃ fd, FunD K "_law_right" "_law_right" (defArgs s__law_right) (defBody s__law_right) (defScope s__law_right) [] [] (He.fAd K ("_law_right", none)) fd ∧ Binds K fd ["bag"] [] := by
  obtain ⟨fd, F⟩ := c
  exact ⟨fd, F, FunD.bindsN (ps := ["bag"]) F fun _ _ _ _ _ _ us hl => match us, hl with | [_], _ => rfl⟩
def df__law_bag : DfA := ⟨fun K => He.fAd K ("_law_bag", none), "_law_bag", "_law_bag", s__law_bag, fun K => []⟩
theorem fa__law_bag {K : FK} {w : World} (c : ∃ fd, FunD K df__law_bag.name df__law_bag.qual (defArgs df__law_bag.st) (defBody df__law_bag.st) (defScope df__law_bag.st) (df__law_bag.dv K) [] (df__law_bag.at_ K) fd) : ∃ fd, FunD K "_law_bag" "_law_bag" (defArgs s__law_bag) (defBody s__law_bag) (defScope s__law_bag) [] [] (He.fAd K ("_law_bag", none)) fd ∧ Binds K fd ["script", "spot"] [] := by
  obtain ⟨fd, F⟩ := c
  exact ⟨fd, F, FunD.bindsN (ps := ["script", "spot"]) F fun _ _ _ _ _ _ us hl => match us, hl with | [_, _], _ => rfl⟩
def df_law : DfA := ⟨fun K => He.fAd K ("law", none), "law", "law", s_law, fun K => []⟩
theorem fa_law {K : FK} {w : World} (c : ∃ fd, FunD K df_law.name df_law.qual (defArgs df_law.st) (defBody df_law.st) (defScope df_law.st) (df_law.dv K) [] (df_law.at_ K) fd) : ∃ fd, FunD K "law" "law" (defArgs s_law) (defBody s_law) (defScope s_law) [] [] (He.fAd K ("law", none)) fd ∧ Binds K fd ["script"] [] := by
  obtain ⟨fd, F⟩ := c
  exact ⟨fd, F, FunD.bindsN (ps := ["script"]) F fun _ _ _ _ _ _ us hl => match us, hl with | [_], _ => rfl⟩
end G
namespace G
open PySem PySem.Spec L2 PD
open PyProof.Rows hiding St
def cs0 : List (FK → Bool) := [fun K => (He.Fa.free "isinstance").ok K, fun K => (He.Fa.free "tuple").ok K, fun K => (He.Fa.free "len").ok K, fun K => (He.Fa.free "str").ok K, fun K => cTab "LENGTHS" kv_LENGTHS K, fun K => (He.Fa.glo "LENGTHS").ok K, fun K => (He.Fa.str "HEAD" "board").ok K, fun K => (He.Fa.free "all").ok K, fun K => cTab "DIGITS" kv_DIGITS K, fun K => (He.Fa.glo "DIGITS").ok K, fun K => (He.Fa.glo "settings_in").ok K, fun K => cTabI "STANDS" kv_STANDS K, fun K => (He.Fa.glo "STANDS").ok K, fun K => (He.Fa.cls "Board").ok K, fun K => (He.Fa.noat "Board" "both").ok K, fun K => cOex "InvalidSizes" "index" K, fun K => (He.Fa.glo "InvalidSizes").ok K, fun K => (He.Fa.free "range").ok K, fun K => (He.Fa.int "MOST_SWITCHES" 5).ok K, fun K => (He.Fa.free "int").ok K, fun K => (He.Fa.free "bool").ok K, fun K => (He.Fa.glo "is_within").ok K, fun K => (He.Fa.int "MOST_SETTINGS" 48).ok K, fun K => (He.Fa.glo "check_sizes").ok K, fun K => (He.Fa.mkr "Board").ok K, fun K => (He.Fa.glo "Board").ok K, fun K => cExm "InvalidSizes" "InvalidSizes" true K, fun K => (He.Fa.glo "board_told").ok K, fun K => (He.Fa.str "SIGN" "<").ok K, fun K => (He.Fa.cls "Notes").ok K]
def cs1 : List (FK → Bool) := [fun K => (He.Fa.noat "Notes" "both").ok K, fun K => cOex "InvalidFacts" "index" K, fun K => (He.Fa.glo "InvalidFacts").ok K, fun K => cFind "Board" "__contains__" K, fun K => (He.Fa.glo "are_neighbours").ok K, fun K => (He.Fa.glo "is_fact").ok K, fun K => (He.Fa.glo "leads").ok K, fun K => (He.Fa.glo "is_let").ok K, fun K => (He.Fa.glo "check_facts").ok K, fun K => cTbl "Board" tb_Board K, fun K => cKin "Board" K, fun K => cKin "Notes" K, fun K => cOex "NotABoard" "given" K, fun K => (He.Fa.glo "NotABoard").ok K, fun K => (He.Fa.glo "check_board").ok K, fun K => (He.Fa.mkr "Notes").ok K, fun K => (He.Fa.glo "Notes").ok K, fun K => cExm "InvalidFacts" "InvalidFacts" true K, fun K => (He.Fa.glo "notes_told").ok K, fun K => (He.Fa.glo "read_notes").ok K, fun K => (He.Fa.glo "is_empty").ok K, fun K => cProp "Notes" "board" K, fun K => cProp "Board" "whole" K, fun K => cProp "Board" "settings" K, fun K => (He.Fa.glo "reached_from").ok K, fun K => cProp "Notes" "facts" K, fun K => (He.Fa.free "any").ok K, fun K => (He.Fa.glo "leads_to_some").ok K, fun K => (He.Fa.glo "turned_to").ok K, fun K => (He.Fa.free "sorted").ok K]
def cs2 : List (FK → Bool) := [fun K => (He.Fa.glo "beside_part").ok K, fun K => (He.Fa.glo "can_both").ok K, fun K => (He.Fa.glo "can_be_two").ok K, fun K => cOex "InvalidOrder" "index" K, fun K => (He.Fa.glo "InvalidOrder").ok K, fun K => cFind "Board" "__len__" K, fun K => (He.Fa.glo "check_order").ok K, fun K => cExm "InvalidOrder" "InvalidOrder" true K, fun K => (He.Fa.glo "is_order").ok K, fun K => (He.Fa.glo "does_fit").ok K, fun K => (He.Fa.glo "is_fitting").ok K, fun K => (He.Fa.glo "peaks_by").ok K, fun K => (He.Fa.glo "squares_of").ok K, fun K => (He.Fa.glo "kind_by").ok K, fun K => (He.Fa.glo "is_rough").ok K, fun K => (He.Fa.glo "can_cross").ok K, fun K => (He.Fa.glo "accepts_whole").ok K, fun K => (He.Fa.glo "is_way").ok K, fun K => (He.Fa.glo "does_rise").ok K, fun K => (He.Fa.glo "accepts_way").ok K, fun K => (He.Fa.glo "is_lot_checker").ok K, fun K => (He.Fa.free "list").ok K, fun K => (He.Fa.glo "told_peaks").ok K, fun K => (He.Fa.glo "can_be_all").ok K, fun K => (He.Fa.glo "accepts_peaks").ok K, fun K => (He.Fa.glo "accepts").ok K, fun K => (He.Fa.free "repr").ok K, fun K => (He.Fa.free "max").ok K, fun K => (He.Fa.free "min").ok K, fun K => (He.Fa.free "divmod").ok K]
def cs3 : List (FK → Bool) := [fun K => (He.Fa.glo "_law_take").ok K, fun K => (He.Fa.glo "_law_of").ok K, fun K => (He.Fa.glo "_law_spread").ok K, fun K => (He.Fa.glo "_law_mixed").ok K, fun K => (He.Fa.glo "_law_apart").ok K, fun K => (He.Fa.glo "_law_seen").ok K, fun K => (He.Fa.glo "_law_world").ok K, fun K => (He.Fa.glo "_law_sheet").ok K, fun K => (He.Fa.glo "_law_lines").ok K, fun K => (He.Fa.glo "_law_near").ok K, fun K => (He.Fa.glo "_law_tops").ok K, fun K => (He.Fa.glo "_law_said").ok K, fun K => (He.Fa.glo "_law_bent_line").ok K, fun K => (He.Fa.glo "_law_is_line").ok K, fun K => (He.Fa.glo "_law_fits").ok K, fun K => (He.Fa.glo "_law_right").ok K, fun K => (He.Fa.free "abs").ok K, fun K => (He.Fa.glo "_law_bag").ok K, fun K => (He.Fa.glo "law").ok K]
def cs : List (FK → Bool) := cs0 ++ (cs1 ++ (cs2 ++ (cs3)))
def fns0 : List DfA := [df_settings_in, df_InvalidSizes, df_is_within, df_check_sizes, df_Board_init, df_board_told, df_InvalidFacts, df_Board_contains, df_are_neighbours, df_is_fact, df_leads, df_is_let, df_check_facts, df_NotABoard, df_check_board, df_Notes_init, df_notes_told, df_read_notes, df_is_empty, df_Notes_board, df_Board_whole, df_Board_settings, df_reached_from, df_Notes_facts, df_leads_to_some, df_turned_to, df_beside_part, df_can_both, df_can_be_two, df_InvalidOrder]
def fns1 : List DfA := [df_Board_len, df_check_order, df_is_order, df_does_fit, df_is_fitting, df_peaks_by, df_squares_of, df_kind_by, df_is_rough, df_can_cross, df_accepts_whole, df_is_way, df_does_rise, df_accepts_way, df_is_lot_checker, df_told_peaks, df_can_be_all, df_accepts_peaks, df_accepts, df__law_take, df__law_of, df__law_spread, df__law_mixed, df__law_apart, df__law_seen, df__law_world, df__law_sheet, df__law_lines, df__law_near, df__law_tops]
def fns2 : List DfA := [df__law_said, df__law_bent_line, df__law_is_line, df__law_fits, df__law_right, df__law_bag, df_law]
def fns : List DfA := fns0 ++ (fns1 ++ (fns2))
def tabs : List He.Tab := [(fun K => He.ga K "LENGTHS", kv_LENGTHS.map (·.1)), (fun K => He.ga K "DIGITS", kv_DIGITS.map (·.1))]
def names0 : List Str := [("_wall" : Str), ("WrongValue" : Str), ("InvalidText" : Str), ("InvalidPart" : Str), ("InvalidSquare" : Str), ("InvalidFact" : Str), ("NotABoard" : Str), ("NotARanking" : Str), ("OtherBoard" : Str), ("InvalidSizes" : Str), ("InvalidFacts" : Str), ("InvalidOrder" : Str), ("WrongName" : Str), ("UnknownSetting" : Str), ("MOST_SWITCHES" : Str), ("MOST_SETTINGS" : Str), ("STANDS" : Str), ("DIGITS" : Str), ("is_within" : Str), ("check_sizes" : Str), ("settings_in" : Str), ("board_told" : Str), ("Board" : Str), ("check_board" : Str), ("check_setting" : Str), ("is_lot" : Str), ("is_lot_boards" : Str), ("part_of" : Str), ("turned_to" : Str), ("beside_part" : Str), ("are_neighbours" : Str), ("squares_of" : Str), ("check_square" : Str), ("check_order" : Str), ("is_order" : Str)]
def names1 : List Str := [("peaks_by" : Str), ("kind_by" : Str), ("crossed_by" : Str), ("betters_by" : Str), ("Ranking" : Str), ("check_ranking" : Str), ("HEAD" : Str), ("SIGN" : Str), ("is_fact" : Str), ("leads" : Str), ("is_let" : Str), ("check_facts" : Str), ("ups" : Str), ("order_for" : Str), ("Notes" : Str), ("does_fit" : Str), ("notes_told" : Str), ("is_fitting" : Str), ("reached_from" : Str), ("leads_to_some" : Str), ("can_both" : Str), ("can_be_two" : Str), ("can_cross" : Str), ("told_peaks" : Str), ("can_be_all" : Str), ("is_way" : Str), ("does_rise" : Str), ("read_notes" : Str), ("LENGTHS" : Str), ("is_empty" : Str), ("is_rough" : Str), ("is_lot_checker" : Str), ("accepts_whole" : Str), ("accepts_way" : Str), ("accepts_peaks" : Str)]
def names2 : List Str := [("accepts" : Str), ("_law_bag" : Str), ("_law_take" : Str), ("_law_of" : Str), ("_law_spread" : Str), ("_law_apart" : Str), ("_law_near" : Str), ("_law_mixed" : Str), ("_law_seen" : Str), ("_law_sheet" : Str), ("_law_lines" : Str), ("_law_tops" : Str), ("_law_fits" : Str), ("_law_world" : Str), ("_law_said" : Str), ("_law_is_line" : Str), ("_law_bent_line" : Str), ("_law_right" : Str)]
def names : List Str := names0 ++ (names1 ++ (names2))
abbrev R : PySem.W.OpenRow := PySem.W.OpenLaw.row PySem.Challenge.rw_switchhills_k70_whole_one_and_two_judged
def places : List Addr := [3, 31, 127, 184, 203, 222, 257, 258, 265, 272, 277, 282, 390, 401, 856, 425, 430, 435, 440, 454, 461, 466, 471, 608, 615, 622, 629, 759, 768, 773, 780, 785, 790, 797, 802, 809, 814, 819, 824, 829, 836, 837, 844, 851, 861, 868, 875, 882, 889, 896, 903, 908, 913, 918, 925, 932, 937, 942, 947, 952, 959, 966, 971, 978, 983, 988, 30, 126, 183, 202, 221, 264, 271, 276, 281, 389, 400, 855, 424, 429, 434, 439, 453, 460, 465, 470, 607, 614, 621, 628, 758, 767, 772, 779, 784, 789, 796, 801, 808, 813, 818, 823, 828, 835, 843, 850, 860, 867, 874, 881, 888, 895, 902, 907, 912, 917, 924, 931, 936, 941, 946, 951, 958, 965, 970, 977, 982, 987, 124, 181, 200, 219, 294, 320, 326, 333, 347, 655, 673, 681, 123, 180, 199, 218, 293, 319, 325, 332, 346, 654, 648, 672, 680, 318, 324, 671, 679]
abbrev hk : PySem.W.Hook := hookL places cs fns tabs
def ob (s : PySem.W.SharedT) : AlP := obsPL places cs fns tabs (HandSHeadRun.getT s)
theorem ob_eq (s : PySem.W.SharedT) : ob s = hk.obs s.abs := obsPL_eq (HandSHeadRun.getT_eq s)
theorem run_f (w : World) : HandSHeadRun.RunEq R (PySem.W.view R.prog [96]) hk ob 8287 names (w.withFollow "special-get-raises" false) := by
  intro os
  kernel_rfl
theorem run_t (w : World) : HandSHeadRun.RunEq R (PySem.W.view R.prog [96]) hk ob 8287 names (w.withFollow "special-get-raises" true) := by
  intro os
  kernel_rfl
theorem run (w : World) : HandSHeadRun.RunEq R (PySem.W.view R.prog [96]) hk ob 8287 names w :=
  PySem.W.byRow2 "special-get-raises" (P := fun w => HandSHeadRun.RunEq R (PySem.W.view R.prog [96]) hk ob 8287 names w) run_f run_t w
end G
namespace G
open PySem PySem.Spec L2 PD
open PyProof.Rows hiding St
theorem facts {P : Program} {w : World} {K : PySem.W.Frag} {h : Heap} {mg : Str → Option Value} (X : K.In h) (G : h.Ns mainGlobals mg) (c : SaysP cs fns tabs w K) (base : Heap) : Fx P w K mg base where
    g_isinstance := He.free_ok X G (c.chk 0 : (He.Fa.free "isinstance").ok K = true)
    g_tuple := He.free_ok X G (c.chk 1 : (He.Fa.free "tuple").ok K = true)
    g_len := He.free_ok X G (c.chk 2 : (He.Fa.free "len").ok K = true)
    g_str := He.free_ok X G (c.chk 3 : (He.Fa.free "str").ok K = true)
    t_LENGTHS := cTab_ok (c.chk 4 : cTab "LENGTHS" kv_LENGTHS K = true) (c.tab 0)
    tg_LENGTHS := He.glo_ok X G (c.chk 5 : (He.Fa.glo "LENGTHS").ok K = true)
    c_HEAD := He.str_ok X G (c.chk 6 : (He.Fa.str "HEAD" "board").ok K = true)
    g_all := He.free_ok X G (c.chk 7 : (He.Fa.free "all").ok K = true)
    t_DIGITS := cTab_ok (c.chk 8 : cTab "DIGITS" kv_DIGITS K = true) (c.tab 1)
    tg_DIGITS := He.glo_ok X G (c.chk 9 : (He.Fa.glo "DIGITS").ok K = true)
    d_settings_in := fa_settings_in (w := w) (c.df (d := df_settings_in) 0)
    f_settings_in := He.glo_ok X G (c.chk 10 : (He.Fa.glo "settings_in").ok K = true)
    t_STANDS := cTabI_ok (c.chk 11 : cTabI "STANDS" kv_STANDS K = true)
    tg_STANDS := He.glo_ok X G (c.chk 12 : (He.Fa.glo "STANDS").ok K = true)
    cl_Board := He.cls_ok (c.chk 13 : (He.Fa.cls "Board").ok K = true)
    na_Board_both := He.noat_ok (c.chk 14 : (He.Fa.noat "Board" "both").ok K = true)
    ex_InvalidSizes := fx_InvalidSizes (c.chk 15 : cOex "InvalidSizes" "index" K = true) (c.df (d := df_InvalidSizes) 1)
    gc_InvalidSizes := He.glo_ok X G (c.chk 16 : (He.Fa.glo "InvalidSizes").ok K = true)
    g_range := He.free_ok X G (c.chk 17 : (He.Fa.free "range").ok K = true)
    c_MOST_SWITCHES := He.int_ok X G (c.chk 18 : (He.Fa.int "MOST_SWITCHES" 5).ok K = true)
    g_int := He.free_ok X G (c.chk 19 : (He.Fa.free "int").ok K = true)
    g_bool := He.free_ok X G (c.chk 20 : (He.Fa.free "bool").ok K = true)
    d_is_within := fa_is_within (w := w) (c.df (d := df_is_within) 2)
    f_is_within := He.glo_ok X G (c.chk 21 : (He.Fa.glo "is_within").ok K = true)
    c_MOST_SETTINGS := He.int_ok X G (c.chk 22 : (He.Fa.int "MOST_SETTINGS" 48).ok K = true)
    d_check_sizes := fa_check_sizes (w := w) (c.df (d := df_check_sizes) 3)
    f_check_sizes := He.glo_ok X G (c.chk 23 : (He.Fa.glo "check_sizes").ok K = true)
    d_Board_init := fa_Board_init (w := w) (c.df (d := df_Board_init) 4)
    mk_Board := He.mkr_ok (c.chk 24 : (He.Fa.mkr "Board").ok K = true)
    gc_Board := He.glo_ok X G (c.chk 25 : (He.Fa.glo "Board").ok K = true)
    exm_InvalidSizes_InvalidSizes := bo_ok (c.chk 26 : cExm "InvalidSizes" "InvalidSizes" true K = true)
    d_board_told := fa_board_told (w := w) (c.df (d := df_board_told) 5)
    f_board_told := He.glo_ok X G (c.chk 27 : (He.Fa.glo "board_told").ok K = true)
    c_SIGN := He.str_ok X G (c.chk 28 : (He.Fa.str "SIGN" "<").ok K = true)
    cl_Notes := He.cls_ok (c.chk 29 : (He.Fa.cls "Notes").ok K = true)
    na_Notes_both := He.noat_ok (c.chk 30 : (He.Fa.noat "Notes" "both").ok K = true)
    ex_InvalidFacts := fx_InvalidFacts (c.chk 31 : cOex "InvalidFacts" "index" K = true) (c.df (d := df_InvalidFacts) 6)
    gc_InvalidFacts := He.glo_ok X G (c.chk 32 : (He.Fa.glo "InvalidFacts").ok K = true)
    d_Board_contains := fa_Board_contains (w := w) (c.df (d := df_Board_contains) 7)
    fi_Board___contains__ := bo_ok (He.ba (c.chk 33 : cFind "Board" "__contains__" K = true)).1
    fn_Board___contains__ := (He.ba (c.chk 33 : cFind "Board" "__contains__" K = true)).2
    d_are_neighbours := fa_are_neighbours (w := w) (c.df (d := df_are_neighbours) 8)
    f_are_neighbours := He.glo_ok X G (c.chk 34 : (He.Fa.glo "are_neighbours").ok K = true)
    d_is_fact := fa_is_fact (w := w) (c.df (d := df_is_fact) 9)
    f_is_fact := He.glo_ok X G (c.chk 35 : (He.Fa.glo "is_fact").ok K = true)
    d_leads := fa_leads (w := w) (c.df (d := df_leads) 10)
    f_leads := He.glo_ok X G (c.chk 36 : (He.Fa.glo "leads").ok K = true)
    d_is_let := fa_is_let (w := w) (c.df (d := df_is_let) 11)
    f_is_let := He.glo_ok X G (c.chk 37 : (He.Fa.glo "is_let").ok K = true)
    d_check_facts := fa_check_facts (w := w) (c.df (d := df_check_facts) 12)
    f_check_facts := He.glo_ok X G (c.chk 38 : (He.Fa.glo "check_facts").ok K = true)
    tb_Board := cTbl_ok (c.chk 39 : cTbl "Board" tb_Board K = true) fun cc hc => by
      rcases kin_Board cc hc with rfl | rfl
      · exact cKin_ok (c.chk 40 : cKin "Board" K = true)
      · exact cKin_ok (c.chk 41 : cKin "Notes" K = true)
    ex_NotABoard := fx_NotABoard (c.chk 42 : cOex "NotABoard" "given" K = true) (c.df (d := df_NotABoard) 13)
    gc_NotABoard := He.glo_ok X G (c.chk 43 : (He.Fa.glo "NotABoard").ok K = true)
    d_check_board := fa_check_board (w := w) (c.df (d := df_check_board) 14)
    f_check_board := He.glo_ok X G (c.chk 44 : (He.Fa.glo "check_board").ok K = true)
    d_Notes_init := fa_Notes_init (w := w) (c.df (d := df_Notes_init) 15)
    mk_Notes := He.mkr_ok (c.chk 45 : (He.Fa.mkr "Notes").ok K = true)
    gc_Notes := He.glo_ok X G (c.chk 46 : (He.Fa.glo "Notes").ok K = true)
    exm_InvalidFacts_InvalidFacts := bo_ok (c.chk 47 : cExm "InvalidFacts" "InvalidFacts" true K = true)
    d_notes_told := fa_notes_told (w := w) (c.df (d := df_notes_told) 16)
    f_notes_told := He.glo_ok X G (c.chk 48 : (He.Fa.glo "notes_told").ok K = true)
    d_read_notes := fa_read_notes (w := w) (c.df (d := df_read_notes) 17)
    f_read_notes := He.glo_ok X G (c.chk 49 : (He.Fa.glo "read_notes").ok K = true)
    d_is_empty := fa_is_empty (w := w) (c.df (d := df_is_empty) 18)
    f_is_empty := He.glo_ok X G (c.chk 50 : (He.Fa.glo "is_empty").ok K = true)
    d_Notes_board := fa_Notes_board (w := w) (c.df (d := df_Notes_board) 19)
    pr_Notes_board := cProp_ok (c.chk 51 : cProp "Notes" "board" K = true)
    d_Board_whole := fa_Board_whole (w := w) (c.df (d := df_Board_whole) 20)
    pr_Board_whole := cProp_ok (c.chk 52 : cProp "Board" "whole" K = true)
    d_Board_settings := fa_Board_settings (w := w) (c.df (d := df_Board_settings) 21)
    pr_Board_settings := cProp_ok (c.chk 53 : cProp "Board" "settings" K = true)
    d_reached_from := fa_reached_from (w := w) (c.df (d := df_reached_from) 22)
    f_reached_from := He.glo_ok X G (c.chk 54 : (He.Fa.glo "reached_from").ok K = true)
    d_Notes_facts := fa_Notes_facts (w := w) (c.df (d := df_Notes_facts) 23)
    pr_Notes_facts := cProp_ok (c.chk 55 : cProp "Notes" "facts" K = true)
    g_any := He.free_ok X G (c.chk 56 : (He.Fa.free "any").ok K = true)
    d_leads_to_some := fa_leads_to_some (w := w) (c.df (d := df_leads_to_some) 24)
    f_leads_to_some := He.glo_ok X G (c.chk 57 : (He.Fa.glo "leads_to_some").ok K = true)
    d_turned_to := fa_turned_to (w := w) (c.df (d := df_turned_to) 25)
    f_turned_to := He.glo_ok X G (c.chk 58 : (He.Fa.glo "turned_to").ok K = true)
    g_sorted := He.free_ok X G (c.chk 59 : (He.Fa.free "sorted").ok K = true)
    d_beside_part := fa_beside_part (w := w) (c.df (d := df_beside_part) 26)
    f_beside_part := He.glo_ok X G (c.chk 60 : (He.Fa.glo "beside_part").ok K = true)
    d_can_both := fa_can_both (w := w) (c.df (d := df_can_both) 27)
    f_can_both := He.glo_ok X G (c.chk 61 : (He.Fa.glo "can_both").ok K = true)
    d_can_be_two := fa_can_be_two (w := w) (c.df (d := df_can_be_two) 28)
    f_can_be_two := He.glo_ok X G (c.chk 62 : (He.Fa.glo "can_be_two").ok K = true)
    ex_InvalidOrder := fx_InvalidOrder (c.chk 63 : cOex "InvalidOrder" "index" K = true) (c.df (d := df_InvalidOrder) 29)
    gc_InvalidOrder := He.glo_ok X G (c.chk 64 : (He.Fa.glo "InvalidOrder").ok K = true)
    d_Board_len := fa_Board_len (w := w) (c.df (d := df_Board_len) 30)
    fi_Board___len__ := bo_ok (He.ba (c.chk 65 : cFind "Board" "__len__" K = true)).1
    fn_Board___len__ := (He.ba (c.chk 65 : cFind "Board" "__len__" K = true)).2
    d_check_order := fa_check_order (w := w) (c.df (d := df_check_order) 31)
    f_check_order := He.glo_ok X G (c.chk 66 : (He.Fa.glo "check_order").ok K = true)
    exm_InvalidOrder_InvalidOrder := bo_ok (c.chk 67 : cExm "InvalidOrder" "InvalidOrder" true K = true)
    d_is_order := fa_is_order (w := w) (c.df (d := df_is_order) 32)
    f_is_order := He.glo_ok X G (c.chk 68 : (He.Fa.glo "is_order").ok K = true)
    d_does_fit := fa_does_fit (w := w) (c.df (d := df_does_fit) 33)
    f_does_fit := He.glo_ok X G (c.chk 69 : (He.Fa.glo "does_fit").ok K = true)
    d_is_fitting := fa_is_fitting (w := w) (c.df (d := df_is_fitting) 34)
    f_is_fitting := He.glo_ok X G (c.chk 70 : (He.Fa.glo "is_fitting").ok K = true)
    d_peaks_by := fa_peaks_by (w := w) (c.df (d := df_peaks_by) 35)
    f_peaks_by := He.glo_ok X G (c.chk 71 : (He.Fa.glo "peaks_by").ok K = true)
    d_squares_of := fa_squares_of (w := w) (c.df (d := df_squares_of) 36)
    f_squares_of := He.glo_ok X G (c.chk 72 : (He.Fa.glo "squares_of").ok K = true)
    d_kind_by := fa_kind_by (w := w) (c.df (d := df_kind_by) 37)
    f_kind_by := He.glo_ok X G (c.chk 73 : (He.Fa.glo "kind_by").ok K = true)
    d_is_rough := fa_is_rough (w := w) (c.df (d := df_is_rough) 38)
    f_is_rough := He.glo_ok X G (c.chk 74 : (He.Fa.glo "is_rough").ok K = true)
    d_can_cross := fa_can_cross (w := w) (c.df (d := df_can_cross) 39)
    f_can_cross := He.glo_ok X G (c.chk 75 : (He.Fa.glo "can_cross").ok K = true)
    d_accepts_whole := fa_accepts_whole (w := w) (c.df (d := df_accepts_whole) 40)
    f_accepts_whole := He.glo_ok X G (c.chk 76 : (He.Fa.glo "accepts_whole").ok K = true)
    d_is_way := fa_is_way (w := w) (c.df (d := df_is_way) 41)
    f_is_way := He.glo_ok X G (c.chk 77 : (He.Fa.glo "is_way").ok K = true)
    d_does_rise := fa_does_rise (w := w) (c.df (d := df_does_rise) 42)
    f_does_rise := He.glo_ok X G (c.chk 78 : (He.Fa.glo "does_rise").ok K = true)
    d_accepts_way := fa_accepts_way (w := w) (c.df (d := df_accepts_way) 43)
    f_accepts_way := He.glo_ok X G (c.chk 79 : (He.Fa.glo "accepts_way").ok K = true)
    d_is_lot_checker := fa_is_lot_checker (w := w) (c.df (d := df_is_lot_checker) 44)
    f_is_lot_checker := He.glo_ok X G (c.chk 80 : (He.Fa.glo "is_lot_checker").ok K = true)
    g_list := He.free_ok X G (c.chk 81 : (He.Fa.free "list").ok K = true)
    d_told_peaks := fa_told_peaks (w := w) (c.df (d := df_told_peaks) 45)
    f_told_peaks := He.glo_ok X G (c.chk 82 : (He.Fa.glo "told_peaks").ok K = true)
    d_can_be_all := fa_can_be_all (w := w) (c.df (d := df_can_be_all) 46)
    f_can_be_all := He.glo_ok X G (c.chk 83 : (He.Fa.glo "can_be_all").ok K = true)
    d_accepts_peaks := fa_accepts_peaks (w := w) (c.df (d := df_accepts_peaks) 47)
    f_accepts_peaks := He.glo_ok X G (c.chk 84 : (He.Fa.glo "accepts_peaks").ok K = true)
    d_accepts := fa_accepts (w := w) (c.df (d := df_accepts) 48)
    f_accepts := He.glo_ok X G (c.chk 85 : (He.Fa.glo "accepts").ok K = true)
    g_repr := He.free_ok X G (c.chk 86 : (He.Fa.free "repr").ok K = true)
    g_max := He.free_ok X G (c.chk 87 : (He.Fa.free "max").ok K = true)
    g_min := He.free_ok X G (c.chk 88 : (He.Fa.free "min").ok K = true)
    g_divmod := He.free_ok X G (c.chk 89 : (He.Fa.free "divmod").ok K = true)
    d__law_take := fa__law_take (w := w) (c.df (d := df__law_take) 49)
    f__law_take := He.glo_ok X G (c.chk 90 : (He.Fa.glo "_law_take").ok K = true)
    d__law_of := fa__law_of (w := w) (c.df (d := df__law_of) 50)
    f__law_of := He.glo_ok X G (c.chk 91 : (He.Fa.glo "_law_of").ok K = true)
    d__law_spread := fa__law_spread (w := w) (c.df (d := df__law_spread) 51)
    f__law_spread := He.glo_ok X G (c.chk 92 : (He.Fa.glo "_law_spread").ok K = true)
    d__law_mixed := fa__law_mixed (w := w) (c.df (d := df__law_mixed) 52)
    f__law_mixed := He.glo_ok X G (c.chk 93 : (He.Fa.glo "_law_mixed").ok K = true)
    d__law_apart := fa__law_apart (w := w) (c.df (d := df__law_apart) 53)
    f__law_apart := He.glo_ok X G (c.chk 94 : (He.Fa.glo "_law_apart").ok K = true)
    d__law_seen := fa__law_seen (w := w) (c.df (d := df__law_seen) 54)
    f__law_seen := He.glo_ok X G (c.chk 95 : (He.Fa.glo "_law_seen").ok K = true)
    d__law_world := fa__law_world (w := w) (c.df (d := df__law_world) 55)
    f__law_world := He.glo_ok X G (c.chk 96 : (He.Fa.glo "_law_world").ok K = true)
    d__law_sheet := fa__law_sheet (w := w) (c.df (d := df__law_sheet) 56)
    f__law_sheet := He.glo_ok X G (c.chk 97 : (He.Fa.glo "_law_sheet").ok K = true)
    d__law_lines := fa__law_lines (w := w) (c.df (d := df__law_lines) 57)
    f__law_lines := He.glo_ok X G (c.chk 98 : (He.Fa.glo "_law_lines").ok K = true)
    d__law_near := fa__law_near (w := w) (c.df (d := df__law_near) 58)
    f__law_near := He.glo_ok X G (c.chk 99 : (He.Fa.glo "_law_near").ok K = true)
    d__law_tops := fa__law_tops (w := w) (c.df (d := df__law_tops) 59)
    f__law_tops := He.glo_ok X G (c.chk 100 : (He.Fa.glo "_law_tops").ok K = true)
    d__law_said := fa__law_said (w := w) (c.df (d := df__law_said) 60)
    f__law_said := He.glo_ok X G (c.chk 101 : (He.Fa.glo "_law_said").ok K = true)
    d__law_bent_line := fa__law_bent_line (w := w) (c.df (d := df__law_bent_line) 61)
    f__law_bent_line := He.glo_ok X G (c.chk 102 : (He.Fa.glo "_law_bent_line").ok K = true)
    d__law_is_line := fa__law_is_line (w := w) (c.df (d := df__law_is_line) 62)
    f__law_is_line := He.glo_ok X G (c.chk 103 : (He.Fa.glo "_law_is_line").ok K = true)
    d__law_fits := fa__law_fits (w := w) (c.df (d := df__law_fits) 63)
    f__law_fits := He.glo_ok X G (c.chk 104 : (He.Fa.glo "_law_fits").ok K = true)
    d__law_right := fa__law_right (w := w) (c.df (d := df__law_right) 64)
    f__law_right := He.glo_ok X G (c.chk 105 : (He.Fa.glo "_law_right").ok K = true)
    g_abs := He.free_ok X G (c.chk 106 : (He.Fa.free "abs").ok K = true)
    d__law_bag := fa__law_bag (w := w) (c.df (d := df__law_bag) 65)
    f__law_bag := He.glo_ok X G (c.chk 107 : (He.Fa.glo "_law_bag").ok K = true)
    d_law := fa_law (w := w) (c.df (d := df_law) 66)
    f_law := He.glo_ok X G (c.chk 108 : (He.Fa.glo "law").ok K = true)
end G
namespace G
open PySem PySem.Spec L2 PD
open PyProof.Rows hiding St
theorem law_of (ev : ∀ ns : List Int, ns.length ≤ 63 → ∃ g, m_law [.scr (ns.map D.int)] [] = .ok (.bl true) g) : PySem.Challenge.rw_switchhills_k70_whole_one_and_two_judged.Holds := by
  w_on; o_law
  refine HandSHeadRun.head_any (r := R) (q := PySem.W.view R.prog [96]) (H := hk) (ob := ob) (M := 8287) (loose := names) (d := HandSHeadRun.topDef R.prog 96) (kwd := []) ob_eq (by kernel_rfl) (fun s => by kernel_rfl) run (by kernel_rfl) (by kernel_rfl) (by kernel_rfl) (by rfl) (by first | assumption | decide +kernel) (by decide +kernel) ⟨rfl, rfl, rfl, rfl, rfl, by decide +kernel⟩ ?hw ?hc
  case hw => w_witness2
  case hc =>
    refine walkG (l := PySem.Challenge.rw_switchhills_k70_whole_one_and_two_judged) (n := 63) (k := 12) (x := "script") rfl (by decide) (by kernel_rfl) ⟨rfl, by decide, by decide⟩ ?F
    intro w mg fa h Y G hmg0
    obtain ⟨K, KX, c⟩ := Y
    have hn : (HandSHeadRun.topDef R.prog 96).name = ("law" : Str) := by kernel_rfl
    have hmg : mg ("law" : Str) = some (.ref fa) := by
      rw [← hn]
      exact hmg0
    have fx := facts (P := PySem.Challenge.rw_switchhills_k70_whole_one_and_two_judged.prog) KX G c
    have e := hmg.symm.trans (He.glo_ok KX G (c.chk 108 : (He.Fa.glo "law").ok K = true))
    cases e
    obtain ⟨fd, _, F, B⟩ := okG_law (fx default)
    refine ⟨K, fd, _, KX, fun s u => ?_, fun H a ns hl hO hS => spD_law hO hS (ev ns hl), fun base _ _ => ?_⟩
    · exact F.bindsA (ps := ["script"]) (fun _ _ _ _ _ _ us hl => match us, hl with | [_], _ => rfl) s [u] rfl
    · obtain ⟨fd2, G2, F2, _⟩ := okG_law (facts (P := PySem.Challenge.rw_switchhills_k70_whole_one_and_two_judged.prog) KX G c base)
      cases funD_det F F2
      exact G2
end G
namespace PD
open PySem PySem.Spec L2
open PyProof.Rows hiding St
section
variable {α β γ δ S T : Type}
theorem e_b1 (f : α → M β) (a : α) : b1 f (pure a) = f a := rfl
theorem e_b2 (f : α → β → M γ) (a : α) (m : M β) : b2 f (pure a) m = m >>= f a := rfl
theorem e_pb (a : α) (k : α → M β) : ((pure a : M α) >>= k) = k a := rfl
theorem e_sb (k : α → M β) : ((stuck : M α) >>= k) = stuck := rfl
theorem e_rb (e : Exc) (k : α → M β) : ((raise e : M α) >>= k) = raise e := rfl
theorem e_nil (k : List D → M β) : aNil β k = k [] := rfl
theorem e_cons (x : D) (c : Ar) (k : List D → M β) : aCons (pure x) c β k = c β fun xs => k (x :: xs) := rfl
theorem e_two (a : α) (n : M β) (k : α → β → M γ) : mTwo (pure a) n k = n >>= fun b => k a b := rfl
theorem e_three (a : α) (n : M β) (l : M δ) (k : α → β → δ → M γ) : mThree (pure a) n l k = n >>= fun b => l >>= fun c => k a b c := rfl
theorem e_ret (d : D) : (mRet (pure d) : M (Fl S)) = pure (.ret d) := rfl
theorem e_rets (d : D) : runS (pure (.ret d) : M (Fl S)) = pure d := rfl
theorem e_nx (t : T) (k : T → M (Fl S)) : seqF (pure (.nx t)) k = k t := rfl
theorem e_sret (d : D) (k : T → M (Fl S)) : seqF (pure (.ret d)) k = pure (.ret d) := rfl
theorem e_sex (e : Exc) (k : T → M (Fl S)) : seqF (raise e) k = raise e := rfl
theorem e_if_t (m k : M α) : mIf (pure true) m k = m := rfl
theorem e_if_f (m k : M α) : mIf (pure false) m k = k := rfl
theorem e_if (c : Bool) (m k : M α) : mIf (pure c) m k = if c = true then m else k := rfl
theorem e_and (c : Bool) (k : M Bool) : mAnd (pure c) k = if c = true then k else pure false := rfl
theorem e_or (c : Bool) (k : M Bool) : mOr (pure c) k = if c = true then pure true else k := rfl
theorem e_not (c : Bool) : mNot (pure c) = pure (!c) := rfl
theorem e_vand (c : Bool) (k : M D) : vAnd (pure (.bl c)) k = if c = true then k else pure (.bl false) := rfl
theorem e_vor (c : Bool) (k : M D) : vOr (pure (.bl c)) k = if c = true then pure (.bl true) else k := rfl
theorem e_vnot (c : Bool) : vNot (pure (.bl c)) = pure (.bl !c) := rfl
theorem e_asB (c : Bool) : asB (.bl c) = pure c := rfl
theorem e_asI (i : Int) : asI (.int i) = pure (some i) := rfl
theorem e_mLst (xs : List D) : mLst (pure xs) = pure (.lst xs) := rfl
theorem e_on1 (k : D → M α) (d : D) : on1 k d = k d := rfl
theorem e_on2 (k : D × D → M α) (a b : D) : on2 k (.tup [a, b]) = k (a, b) := rfl
theorem e_on3 (k : D × D × D → M α) (a b c : D) : on3 k (.tup [a, b, c]) = k (a, b, c) := rfl
theorem e_on4 (k : D × D × D × D → M α) (a b c d : D) : on4 k (.tup [a, b, c, d]) = k (a, b, c, d) := rfl
theorem e_on4l (k : D × D × D × D → M α) (a b c d : D) : on4l k (.lst [a, b, c, d]) = k (a, b, c, d) := rfl
theorem e_un2 (k : D → D → M α) (a b : D) : un2 k (.tup [a, b]) = k a b := rfl
theorem d_addi (i j : Int) : dAdd (.int i) (.int j) = pure (.int (i + j)) := rfl
theorem d_adds (x y : Str) (h : x.length + y.length ≤ sizeLine) : dAdd (.str x) (.str y) = pure (.str (x ++ y)) := if_pos h
theorem d_addt (x y : List D) (h : x.length + y.length ≤ sizeLine) : dAdd (.tup x) (.tup y) = pure (.tup (x ++ y)) := if_pos h
theorem d_addl (x y : List D) (h : x.length + y.length ≤ sizeLine) : dAdd (.lst x) (.lst y) = pure (.lst (x ++ y)) := if_pos h
theorem d_sub (i j : Int) : dSub (.int i) (.int j) = pure (.int (i - j)) := rfl
theorem d_mul (i j : Int) (h : (-(2 ^ 64) < i ∧ i < 2 ^ 64) ∨ (-(2 ^ 64) < j ∧ j < 2 ^ 64)) : dMul (.int i) (.int j) = pure (.int (i * j)) := if_pos h
theorem d_div (i j : Int) (h : 0 < j ∧ j < 1073741824) : dDiv (.int i) (.int j) = pure (.int (i / j)) := if_pos h
theorem d_mod (i j : Int) (h : 0 < j) : dMod (.int i) (.int j) = pure (.int (i % j)) := if_pos h
theorem d_neg (i : Int) : dNeg (.int i) = pure (.int (-i)) := rfl
theorem d_lt (i j : Int) : dLt (.int i) (.int j) = pure (.bl (decide (i < j))) := rfl
theorem d_gt (i j : Int) : dGt (.int i) (.int j) = pure (.bl (decide (j < i))) := rfl
theorem d_le (i j : Int) : dLe (.int i) (.int j) = pure (.bl (decide (i ≤ j))) := rfl
theorem d_ge (i j : Int) : dGe (.int i) (.int j) = pure (.bl (decide (j ≤ i))) := rfl
theorem d_lts (i j : Str) : dLt (.str i) (.str j) = pure (.bl (strLt i j)) := rfl
theorem d_gts (i j : Str) : dGt (.str i) (.str j) = pure (.bl (strLt j i)) := rfl
theorem d_eq (x y : D) (h : D.cok x y = true) : dEq x y = pure (.bl (D.eqv x y)) := if_pos h
theorem d_ne (x y : D) (h : D.cok x y = true) : dNe x y = pure (.bl (!D.eqv x y)) := if_pos h
theorem f_inti (i : Int) : fInt [.int i] = pure (.int i) := rfl
theorem f_abs (i : Int) : fAbs [.int i] = pure (.int (if i < 0 then -i else i)) := rfl
theorem f_divmod (i j : Int) (h : 0 < j ∧ j < 1073741824) : fDivmod [.int i, .int j] = pure (.tup [.int (i / j), .int (i % j)]) := if_pos h
theorem d_lent (xs : List D) : dLen [.tup xs] = pure (.int xs.length) := rfl
theorem d_lenl (xs : List D) : dLen [.lst xs] = pure (.int xs.length) := rfl
theorem d_lenr (xs : List D) : dLen [.scr xs] = pure (.int xs.length) := rfl
theorem d_lens (x : Str) (h : x.length ≤ sizeLine) : dLen [.str x] = pure (.int x.length) := if_pos h
theorem d_tup (ds : List D) (h : ds.length ≤ sizeLine) : dTup ds = pure (.tup ds) := if_pos h
theorem d_lst (ds : List D) (h : ds.length ≤ sizeLine) : dLst ds = pure (.lst ds) := if_pos h
theorem n_lst (ds : List D) (h : ds.length ≤ sizeLine) : nLst ds = pure ds := if_pos h
def BagAt (g : GS) (n : Nat) : Prop := ∃ s d c : Int, g[n]? = some (.lst [.int s, .int d, .int c]) ∧ 0 ≤ s ∧ s < 2147483587 ∧ 0 ≤ d
def Pos {α : Type} (n : Nat) (m : M α) (P : α → Prop) : Prop := ∀ g, BagAt g n → ∃ a g', m g = .ok a g' ∧ P a ∧ BagAt g' n ∧ g'.length = g.length ∧ ∀ j, j ≠ n → g'[j]? = g[j]?
variable {n : Nat} {P : α → Prop} {Q : β → Prop}
theorem Pos.pure {a : α} (h : P a) : Pos n (Pure.pure a : M α) P := fun g hb => ⟨a, g, rfl, h, hb, rfl, fun _ _ => rfl⟩
theorem Pos.eq {m : M α} {a : α} (e : m = Pure.pure a) (h : P a) : Pos n m P := e ▸ Pos.pure h
theorem Pos.run {m : M α} {a : α} (e : ∀ g, m g = .ok a g) (h : P a) : Pos n m P := fun g hb => ⟨a, g, e g, h, hb, rfl, fun _ _ => rfl⟩
theorem Pos.mono {m : M α} {P' : α → Prop} (h : Pos n m P) (k : ∀ a, P a → P' a) : Pos n m P' := fun g hb => by
  obtain ⟨a, g', e, p, r⟩ := h g hb
  exact ⟨a, g', e, k a p, r⟩
theorem Pos.bind {m : M α} {k : α → M β} (h : Pos n m P) (hk : ∀ a, P a → Pos n (k a) Q) : Pos n (m >>= k) Q := fun g hb => by
  obtain ⟨a, g1, e, p, hb1, l1, f1⟩ := h g hb
  obtain ⟨b, g2, e2, q, hb2, l2, f2⟩ := hk a p g1 hb1
  exact ⟨b, g2, by rw [M.bind_run, e]; exact e2, q, hb2, l2.trans l1, fun j hj => (f2 j hj).trans (f1 j hj)⟩
theorem Pos.b1 {f : α → M β} {m : M α} (h : Pos n m P) (hk : ∀ a, P a → Pos n (f a) Q) : Pos n (PD.b1 f m) Q := Pos.bind h hk
theorem Pos.b2 {R : γ → Prop} {f : α → β → M γ} {m : M α} {k : M β} (h : Pos n m P) (h2 : Pos n k Q) (hf : ∀ a b, P a → Q b → Pos n (f a b) R) : Pos n (PD.b2 f m k) R :=
  Pos.bind h fun a pa => Pos.bind h2 fun b qb => hf a b pa qb
theorem Pos.mIf {c : M Bool} {PB : Bool → Prop} {m k : M α} (h : Pos n c PB) (h1 : PB true → Pos n m P) (h2 : PB false → Pos n k P) : Pos n (PD.mIf c m k) P :=
  Pos.bind h fun b hb => by
    cases b with
    | true => exact h1 hb
    | false => exact h2 hb
theorem Pos.mRet {S : Type} {R : Fl S → Prop} {m : M D} {P : D → Prop} (h : Pos n m P) (k : ∀ d, P d → R (.ret d)) : Pos n (PD.mRet m : M (Fl S)) R := Pos.bind h fun d p => Pos.pure (k d p)
theorem Pos.runS {S : Type} {m : M (Fl S)} {R : D → Prop} (h : Pos n m fun r => ∃ d, r = .ret d ∧ R d) : Pos n (PD.runS m) R := Pos.bind h fun r ⟨d, e, q⟩ => by subst e; exact Pos.pure q
theorem Pos.seqF {T S : Type} {m : M (Fl T)} {k : T → M (Fl S)} {I : T → Prop} {R : D → Prop} {QQ : Fl S → Prop} (h : Pos n m fun r => (∃ t, r = .nx t ∧ I t) ∨ ∃ d, r = .ret d ∧ R d) (h1 : ∀ t, I t → Pos n (k t) QQ) (h2 : ∀ d, R d → QQ (.ret d)) : Pos n (PD.seqF m k) QQ :=
  Pos.bind h fun r hr => by
    rcases hr with ⟨t, rfl, i⟩ | ⟨d, rfl, q⟩
    · exact h1 t i
    · exact Pos.pure (h2 d q)
theorem Pos.forD {S : Type} {b : S → D → M (Fl S)} {R : D → Prop} (I : List D → S → Prop) (turn : ∀ d ds s, I (d :: ds) s → Pos n (b s d) fun r => (∃ s', (r = .nx s' ∨ r = .ct s') ∧ I ds s') ∨ (∃ s', r = .bk s' ∧ I [] s') ∨ ∃ v, r = .ret v ∧ R v) :
    ∀ (ds : List D) (s : S), I ds s → Pos n (PD.forD b ds s) fun r => (∃ t, r = .nx t ∧ I [] t) ∨ ∃ d, r = .ret d ∧ R d
  | [], s, i => Pos.pure (.inl ⟨s, rfl, i⟩)
  | d :: ds, s, i => Pos.bind (turn d ds s i) fun r hr => by
    rcases hr with ⟨s', e | e, i'⟩ | ⟨s', e, i'⟩ | ⟨v, e, q⟩
    · subst e; exact Pos.forD I turn ds s' i'
    · subst e; exact Pos.forD I turn ds s' i'
    · subst e; exact Pos.pure (.inl ⟨s', rfl, i'⟩)
    · subst e; exact Pos.pure (.inr ⟨v, rfl, q⟩)
end
def Ev {α : Type} (m : M α) (g : GS) (a : α) (g' : GS) : Prop := m g = .ok a g'
theorem Ev.bind {α β : Type} {m : M α} {k : α → M β} {g g1 g2 : GS} {a : α} {b : β} (h : Ev m g a g1) (h2 : Ev (k a) g1 b g2) : Ev (m >>= k) g b g2 := by
  show (m >>= k) g = _
  rw [M.bind_run, h]
  exact h2
theorem Ev.pure {α : Type} {a : α} {g : GS} : Ev (Pure.pure a : M α) g a g := rfl
theorem Ev.seqF {T S : Type} {m : M (Fl T)} {k : T → M (Fl S)} {g g1 g2 : GS} {t : T} {r : Fl S} (h : Ev m g (.nx t) g1) (h2 : Ev (k t) g1 r g2) : Ev (PD.seqF m k) g r g2 := by
  unfold PD.seqF
  exact Ev.bind h (show Ev _ g1 r g2 from h2)
theorem Ev.mRet {S : Type} {m : M D} {g g' : GS} {d : D} (h : Ev m g d g') : Ev (PD.mRet m : M (Fl S)) g (.ret d) g' := Ev.bind h Ev.pure
theorem Ev.runS {S : Type} {m : M (Fl S)} {g g' : GS} {d : D} (h : Ev m g (.ret d) g') : Ev (PD.runS m) g d g' := by
  unfold PD.runS
  exact Ev.bind h (show Ev (endF (.ret d)) g' d g' from rfl)
def EvX {α : Type} (m : M α) (g : GS) (R : α → GS → Prop) : Prop := ∃ a g', Ev m g a g' ∧ R a g'
theorem EvX.bind {α β : Type} {m : M α} {k : α → M β} {g g1 : GS} {a : α} {R : β → GS → Prop} (h : Ev m g a g1) (h2 : EvX (k a) g1 R) : EvX (m >>= k) g R := by
  obtain ⟨b, g2, e, r⟩ := h2
  exact ⟨b, g2, Ev.bind h e, r⟩
theorem EvX.pure {α : Type} {a : α} {g : GS} {R : α → GS → Prop} (h : R a g) : EvX (Pure.pure a : M α) g R := ⟨a, g, rfl, h⟩
theorem ix_bag {g : GS} {n : Nat} {xs : List D} {i : Int} {v : D} (e : g[n]? = some (.lst xs)) (h : atI xs i = some v) : dIxA (.id n) (.int i) g = .ok v g := by
  show gL n (fun xs => atM xs i) g = _
  unfold gL
  rw [e]
  show (match atI xs i with
  | some d => (pure d : M D)
  | none => stuck) g = _
  rw [h]
  rfl
theorem put_bag {g : GS} {n : Nat} {xs : List D} {i : Int} {j : Nat} {d : D} (e : g[n]? = some (.lst xs)) (h : ixN xs.length i = some j) : iPut (.id n) (.int i) d g = .ok () (g.set n (.lst (xs.set j d))) := by
  show gL n _ g = _
  unfold gL
  rw [e]
  show (match ixN xs.length i with
    | some j => (fun g => Out.ok () (g.set n (.lst (xs.set j d))) : M Unit)
    | none => stuck) g = _
  rw [h]
theorem set_bag {g : GS} {n : Nat} {x y : MO} (e : g[n]? = some x) : (g.set n y)[n]? = some y := by
  rw [List.getElem?_set_self']
  rw [e]
  rfl
theorem Ev.ix {g : GS} {n : Nat} {xs : List D} {i : Int} {v : D} (e : g[n]? = some (.lst xs)) (h : atI xs i = some v) : Ev (dIxA (.id n) (.int i)) g v g := ix_bag e h
theorem Ev.put {g : GS} {n : Nat} {xs : List D} {i : Int} {j : Nat} {d : D} (e : g[n]? = some (.lst xs)) (h : ixN xs.length i = some j) : Ev (iPut (.id n) (.int i) d) g () (g.set n (.lst (xs.set j d))) := put_bag e h
theorem bind_ok {α β : Type} {m : M α} {k : α → M β} {g g' : GS} {a : α} (e : m g = .ok a g') : (m >>= k) g = k a g' := by rw [M.bind_run, e]
end PD
namespace PD
open PySem PySem.Spec L2
open PyProof.Rows hiding St
section
variable {α β γ S T : Type}
abbrev strsD (xs : List Str) : List D := xs.map D.str
abbrev prsD (fs : List (Str × Str)) : List D := fs.map fun p => D.tup [.str p.1, .str p.2]
theorem len_line {n : Nat} (h : n ≤ 1000000) : n ≤ sizeLine := by show n ≤ 16777216; omega
theorem lt_line {n : Nat} (h : n ≤ 1000000) : n < sizeLine := by show n < 16777216; omega
theorem lc_filterMap {b : D → M (Option D)} {f : α → D} {h : α → Option D} : ∀ (xs : List α) (acc : List D), (∀ x ∈ xs, b (f x) = pure (h x)) → acc.length + xs.length ≤ 1000000 → lcD b (xs.map f) acc = pure (acc ++ xs.filterMap h)
  | [], acc, _, _ => by rw [List.filterMap_nil, List.append_nil]; rfl
  | x :: xs, acc, hb, hl => by
    rw [List.length_cons] at hl
    show (nox (b (f x)) >>= fun o => match o with
      | some y => if acc.length < sizeLine then lcD b (xs.map f) (acc ++ [y]) else stuck
      | none => lcD b (xs.map f) acc) = _
    rw [hb x (List.mem_cons_self ..), nox_pure, pure_bind]
    cases e : h x with
    | none => rw [lc_filterMap xs acc (fun y hy => hb y (List.mem_cons_of_mem _ hy)) (by omega), List.filterMap_cons_none e]
    | some y =>
      dsimp only
      rw [if_pos (lt_line (by omega)), lc_filterMap xs (acc ++ [y]) (fun y hy => hb y (List.mem_cons_of_mem _ hy)) (by rw [List.length_append, List.length_singleton]; omega), List.filterMap_cons_some e, List.append_assoc]
      rfl
theorem lc_map {b : D → M (Option D)} {f : α → D} {h : α → D} (xs : List α) (hb : ∀ x ∈ xs, b (f x) = pure (some (h x))) (hl : xs.length ≤ 1000000) : lcD b (xs.map f) [] = pure (xs.map h) := by
  rw [lc_filterMap (h := fun x => some (h x)) xs [] hb (by simpa using hl), List.nil_append]
  congr 1
  clear hb hl
  induction xs with
  | nil => rfl
  | cons x xs ih =>
    rw [List.map_cons, ← ih]
    rfl
theorem lc_filter {b : D → M (Option D)} {f : α → D} {p : α → Bool} {h : α → D} (xs : List α) (hb : ∀ x ∈ xs, b (f x) = pure (if p x = true then some (h x) else none)) (hl : xs.length ≤ 1000000) : lcD b (xs.map f) [] = pure ((xs.filter p).map h) := by
  rw [lc_filterMap (h := fun x => if p x = true then some (h x) else none) xs [] hb (by simpa using hl), List.nil_append]
  congr 1
  clear hb hl
  induction xs with
  | nil => rfl
  | cons x xs ih =>
    cases e : p x with
    | true => rw [List.filterMap_cons_some (b := h x) (by rw [e]; rfl), List.filter_cons_of_pos e, List.map_cons, ih]
    | false => rw [List.filterMap_cons_none (by rw [e]; rfl), List.filter_cons_of_neg (by rw [e]; simp), ih]
theorem for_fold {b : S → D → M (Fl S)} {f : α → D} {step : σ → α → σ} {emb : σ → S} (I : σ → Prop) : ∀ (xs : List α) (s : σ), I s → (∀ s x, I s → x ∈ xs → b (emb s) (f x) = pure (.nx (emb (step s x))) ∧ I (step s x)) → forD b (xs.map f) (emb s) = pure (.nx (emb (xs.foldl step s)))
  | [], s, _, _ => rfl
  | x :: xs, s, i, hb => by
    obtain ⟨e, i'⟩ := hb s x i (List.mem_cons_self ..)
    show (b (emb s) (f x) >>= _) = _
    rw [e, pure_bind]
    exact for_fold I xs (step s x) i' fun s y hs hy => hb s y hs (List.mem_cons_of_mem _ hy)
theorem bools_map : ∀ bs : List Bool, bools (bs.map D.bl) = some bs
  | [] => rfl
  | b :: bs => by
    rw [List.map_cons, bools, bools_map bs]
    rfl
theorem f_all (bs : List Bool) : fAll [.lst (bs.map D.bl)] = pure (.bl (bs.all id)) := by
  show (match bools (bs.map D.bl) with
    | some bs => pure (.bl (bs.all id))
    | none => stuck : M D) = _
  rw [bools_map]
theorem f_any (bs : List Bool) : fAny [.lst (bs.map D.bl)] = pure (.bl (bs.any id)) := by
  show (match bools (bs.map D.bl) with
    | some bs => pure (.bl (bs.any id))
    | none => stuck : M D) = _
  rw [bools_map]
theorem f_all' {α : Type} (xs : List α) (p : α → Bool) : fAll [.lst (xs.map fun x => D.bl (p x))] = pure (.bl (xs.all p)) := by
  have := f_all (xs.map p)
  rw [List.map_map] at this
  rw [show (xs.map fun x => D.bl (p x)) = xs.map (D.bl ∘ p) from rfl, this, List.all_map]
  rfl
theorem f_any' {α : Type} (xs : List α) (p : α → Bool) : fAny [.lst (xs.map fun x => D.bl (p x))] = pure (.bl (xs.any p)) := by
  have := f_any (xs.map p)
  rw [List.map_map] at this
  rw [show (xs.map fun x => D.bl (p x)) = xs.map (D.bl ∘ p) from rfl, this, List.any_map]
  rfl
theorem it_lst (xs : List D) : items (.lst xs) = pure xs := rfl
theorem it_tup (xs : List D) : items (.tup xs) = pure xs := rfl
theorem rngN (m : Nat) (h : m < 2 ^ 62) : fRange1 [.int m] = pure ((List.range m).map fun (i : Nat) => D.int (i : Nat)) := by
  show rngD 0 m = _
  unfold rngD
  rw [if_pos ⟨by omega, by omega, by omega, by omega⟩]
  simp
theorem at_nat {xs : List α} {i : Nat} {x : α} (h : xs[i]? = some x) : atI xs (i : Int) = some x := by
  have hl := (List.getElem?_eq_some_iff.mp h).1
  unfold atI ixN
  rw [if_pos (by omega), if_pos (by omega)]
  show xs[((i : Nat) : Int).toNat]? = some x
  rw [Int.toNat_natCast, h]
theorem ix_lstN {xs : List D} {i : Nat} {d : D} (h : xs[i]? = some d) : dIxA (.lst xs) (.int (i : Nat)) = pure d := by
  show (match atI xs (i : Nat) with
    | some d => pure d
    | none => stuck : M D) = _
  rw [at_nat h]
theorem ix_tupN {xs : List D} {i : Nat} {d : D} (h : xs[i]? = some d) : dIxA (.tup xs) (.int (i : Nat)) = pure d := by
  show (match atI xs (i : Nat) with
    | some d => pure d
    | none => stuck : M D) = _
  rw [at_nat h]
theorem ix_t0 (x : D) (xs : List D) : dIxA (.tup (x :: xs)) (.int 0) = pure x := ix_tupN (i := 0) rfl
theorem ix_t1 (x y : D) (xs : List D) : dIxA (.tup (x :: y :: xs)) (.int 1) = pure y := ix_tupN (i := 1) rfl
theorem ix_l0 (x : D) (xs : List D) : dIxA (.lst (x :: xs)) (.int 0) = pure x := ix_lstN (i := 0) rfl
theorem ix_l1 (x y : D) (xs : List D) : dIxA (.lst (x :: y :: xs)) (.int 1) = pure y := ix_lstN (i := 1) rfl
theorem eq_str (a b : Str) : dEq (.str a) (.str b) = pure (.bl (a == b)) := by
  rw [d_eq _ _ rfl]
  rfl
theorem ne_str (a b : Str) : dNe (.str a) (.str b) = pure (.bl (!(a == b))) := by
  rw [d_ne _ _ rfl]
  rfl
theorem eq_int (i j : Int) : dEq (.int i) (.int j) = pure (.bl (decide (i = j))) := by
  rw [d_eq _ _ rfl]
  show (pure (.bl (i == j)) : M D) = _
  congr 2
theorem ne_int (i j : Int) : dNe (.int i) (.int j) = pure (.bl (!decide (i = j))) := by
  rw [d_ne _ _ rfl]
  show (pure (.bl (!(i == j))) : M D) = _
  congr 2
theorem dat_strs (xs : List Str) : datAll (strsD xs) = true := by
  induction xs with
  | nil => rfl
  | cons x xs ih => exact ih
theorem mix_strs (a : Str) (xs : List Str) : ((pyAll (strsD xs)).all fun y => SeqAt.mixOk y (.str a)) = true := by
  induction xs with
  | nil => rfl
  | cons x xs ih =>
    show (SeqAt.mixOk (.str x) (.str a) && (pyAll (strsD xs)).all fun y => SeqAt.mixOk y (.str a)) = true
    rw [ih]
    rfl
theorem okIn_strs (a : Str) (xs : List Str) : okIn (.str a) (strsD xs) = true := by
  unfold okIn
  rw [dat_strs]
  show (true && true && ((pyAll (strsD xs)).all fun y => SeqAt.mixOk y (.str a)) && true) = true
  rw [mix_strs]
  rfl
theorem isIn_strs (a : Str) (xs : List Str) : D.isIn (.str a) (strsD xs) = xs.contains a := by
  unfold D.isIn
  rw [List.any_map]
  induction xs with
  | nil => rfl
  | cons x xs ih =>
    rw [List.any_cons, ih, List.contains_cons]
    show ((x == a) || _) = ((a == x) || _)
    rw [BEq.comm]
theorem in_strs (neg : Bool) (a : Str) (xs : List Str) : inSeq neg (.str a) (strsD xs) = pure (.bl (neg? neg (xs.contains a))) := by
  unfold inSeq
  rw [if_pos (okIn_strs a xs), isIn_strs]
theorem in_lst (a : Str) (xs : List Str) : dIn (.str a) (.lst (strsD xs)) = pure (.bl (xs.contains a)) := in_strs false a xs
theorem in_tup (a : Str) (xs : List Str) : dIn (.str a) (.tup (strsD xs)) = pure (.bl (xs.contains a)) := in_strs false a xs
theorem nin_lst (a : Str) (xs : List Str) : dNotIn (.str a) (.lst (strsD xs)) = pure (.bl (!xs.contains a)) := in_strs true a xs
theorem nin_tup (a : Str) (xs : List Str) : dNotIn (.str a) (.tup (strsD xs)) = pure (.bl (!xs.contains a)) := in_strs true a xs
theorem qin (a : Str) (xs : List Str) (b : Bool) : qIn (.str a) (b, strsD xs) = pure (.bl (xs.contains a)) := in_strs false a xs
theorem qnin (a : Str) (xs : List Str) (b : Bool) : qNotIn (.str a) (b, strsD xs) = pure (.bl (!xs.contains a)) := in_strs true a xs
theorem eq_nil_strs (xs : List Str) : D.eqv (.lst (strsD xs)) (.lst []) = xs.isEmpty := by
  cases xs <;> rfl
theorem cokl_nil {xs : List D} (h : datAll xs = true) (hd : PyData.depthAll (pyAll xs) ≤ 39) : D.cok (.lst xs) (.lst []) = true := by
  unfold D.cok
  simp only [Bool.and_eq_true, decide_eq_true_eq]
  refine ⟨⟨⟨h, rfl⟩, ?_⟩, ?_⟩
  · show SeqAt.mixAll (pyAll xs) [] = true
    cases xs <;> rfl
  · show PyData.depthAll (pyAll xs) + 1 ≤ 40
    omega
theorem depth_strs (xs : List Str) : PyData.depthAll (pyAll (strsD xs)) = 0 := by
  induction xs with
  | nil => rfl
  | cons x xs ih =>
    show max 0 (PyData.depthAll (pyAll (strsD xs))) = 0
    rw [ih]
    rfl
theorem qne_nil (xs : List Str) : qNe (false, strsD xs) (.lst []) = pure (.bl (!xs.isEmpty)) := by
  show (if D.cok (.lst (strsD xs)) (.lst []) = true ∧ false = false then pure (.bl (neg? true (D.eqv (.lst (strsD xs)) (.lst [])))) else stuck : M D) = _
  rw [if_pos ⟨cokl_nil (dat_strs xs) (by rw [depth_strs]; omega), rfl⟩, eq_nil_strs]
  rfl
theorem eq_nil (xs : List Str) : dEq (.lst (strsD xs)) (.lst []) = pure (.bl xs.isEmpty) := by
  rw [d_eq _ _ (cokl_nil (dat_strs xs) (by rw [depth_strs]; omega)), eq_nil_strs]
theorem strsOf_map : ∀ xs : List Str, strsOf (strsD xs) = some xs
  | [] => rfl
  | x :: xs => by
    show (match strsOf (strsD xs) with
    | some xs => some (x :: xs)
    | none => none) = some (x :: xs)
    rw [strsOf_map xs]
theorem idx_ok (xs : List Str) (k : Str) (h : k ∈ xs) (hl : xs.length ≤ 1000000) : ixStr (strsD xs) k = pure (.int (xs.idxOf k : Nat)) := by
  unfold ixStr
  rw [strsOf_map]
  exact if_pos ⟨h, len_line hl⟩
theorem idx_lst (xs : List Str) (k : Str) (h : k ∈ xs) (hl : xs.length ≤ 1000000) : kIndex (pure (.str k)) (.lst (strsD xs)) = pure (.int (xs.idxOf k : Nat)) := idx_ok xs k h hl
theorem idx_tup (xs : List Str) (k : Str) (h : k ∈ xs) (hl : xs.length ≤ 1000000) : kIndex (pure (.str k)) (.tup (strsD xs)) = pure (.int (xs.idxOf k : Nat)) := idx_ok xs k h hl
end
end PD
namespace PD
open PySem PySem.Spec L2
open PyProof.Rows hiding St
abbrev Fs := List (Str × Str)
inductive Reach (fs : Fs) (a : Str) : Str → Prop
  | refl : Reach fs a a
  | step {b c : Str} : Reach fs a b → (b, c) ∈ fs → Reach fs a c
theorem Reach.head {fs : Fs} {a b c : Str} (h : (a, b) ∈ fs) (r : Reach fs b c) : Reach fs a c := by
  induction r with
  | refl => exact .step .refl h
  | step _ e ih => exact .step ih e
theorem Reach.trans {fs : Fs} {a b c : Str} (h : Reach fs a b) (r : Reach fs b c) : Reach fs a c := by
  induction r with
  | refl => exact h
  | step _ e ih => exact .step ih e
theorem Reach.mono {fs gs : Fs} (hs : ∀ f ∈ fs, f ∈ gs) {a b : Str} (r : Reach fs a b) : Reach gs a b := by
  induction r with
  | refl => exact .refl
  | step _ e ih => exact .step ih (hs _ e)
def succs (fs : Fs) (p : Str) (found : List Str) : List Str := (fs.filter fun f => f.1 == p && !found.contains f.2).map (·.2)
theorem mem_succs {fs : Fs} {p : Str} {found : List Str} {c : Str} : c ∈ succs fs p found ↔ (p, c) ∈ fs ∧ c ∉ found := by
  unfold succs
  rw [List.mem_map]
  constructor
  · rintro ⟨⟨a, b⟩, h, rfl⟩
    rw [List.mem_filter] at h
    have h2 : (a == p) = true ∧ (!found.contains b) = true := by simpa [Bool.and_eq_true] using h.2
    have e : a = p := eq_of_beq h2.1
    subst e
    exact ⟨h.1, by simpa using h2.2⟩
  · rintro ⟨h, hn⟩
    refine ⟨(p, c), List.mem_filter.mpr ⟨h, ?_⟩, rfl⟩
    simp [hn]
theorem nodup_succs {fs : Fs} (nd : fs.Nodup) (p : Str) (found : List Str) : (succs fs p found).Nodup := by
  unfold succs
  have h : (fs.filter fun f => f.1 == p && !found.contains f.2).Nodup := nd.filter _
  have hp : ∀ f ∈ fs.filter (fun f => f.1 == p && !found.contains f.2), f.1 = p := fun f hf => by
    have := (List.mem_filter.mp hf).2
    simp only [Bool.and_eq_true] at this
    exact eq_of_beq this.1
  generalize fs.filter (fun f => f.1 == p && !found.contains f.2) = l at h hp
  induction l with
  | nil => exact List.nodup_nil
  | cons f l ih =>
    rw [List.map_cons, List.nodup_cons]
    rw [List.nodup_cons] at h
    refine ⟨fun hm => ?_, ih h.2 fun g hg => hp g (List.mem_cons_of_mem _ hg)⟩
    obtain ⟨g, hg, e⟩ := List.mem_map.mp hm
    refine h.1 ?_
    have : g = f := Prod.ext ((hp g (List.mem_cons_of_mem _ hg)).trans (hp f (List.mem_cons_self ..)).symm) e
    rw [← this]
    exact hg
def search (fs : Fs) : Nat → List Str → List Str → List Str
  | 0, _, found => found
  | n + 1, w, found => match w.getLast? with
    | none => found
    | some p => search fs n (w.dropLast ++ succs fs p found) (found ++ succs fs p found)
structure SeInv (fs : Fs) (a : Str) (U w found : List Str) : Prop where
  nd : found.Nodup
  sub : ∀ x ∈ found, x ∈ U
  reach : ∀ x ∈ found, Reach fs a x
  st : a ∈ found
  wf : ∀ x ∈ w, x ∈ found
  wnd : w.Nodup
  done : ∀ x ∈ found, x ∉ w → ∀ c, (x, c) ∈ fs → c ∈ found
theorem nodup_le {l U : List Str} (nd : l.Nodup) (h : ∀ x ∈ l, x ∈ U) : l.length ≤ U.length := by
  induction l generalizing U with
  | nil => exact Nat.zero_le _
  | cons x l ih =>
    rw [List.nodup_cons] at nd
    have hx := h x (List.mem_cons_self ..)
    have := ih (U := U.erase x) nd.2 fun y hy => by
      have ne : y ≠ x := fun z => nd.1 (z ▸ hy)
      exact (List.mem_erase_of_ne ne).mpr (h y (List.mem_cons_of_mem _ hy))
    rw [List.length_erase_of_mem hx] at this
    have pos : 0 < U.length := List.length_pos_of_mem hx
    rw [List.length_cons]
    omega
theorem SeInv.wlen {fs : Fs} {a : Str} {U w found : List Str} (i : SeInv fs a U w found) : w.length ≤ U.length := nodup_le i.wnd fun x hx => i.sub x (i.wf x hx)
theorem SeInv.start {fs : Fs} {a : Str} {U : List Str} (h : a ∈ U) : SeInv fs a U [a] [a] where
  nd := by simp
  sub := fun x hx => by rw [List.mem_singleton.mp hx]; exact h
  reach := fun x hx => by rw [List.mem_singleton.mp hx]; exact .refl
  st := List.mem_singleton.mpr rfl
  wf := fun _ h => h
  wnd := by simp
  done := fun x hx hn => absurd hx hn
theorem dropLast_mem {α : Type} {w : List α} {x : α} (h : x ∈ w.dropLast) : x ∈ w := (List.dropLast_sublist w).subset h
theorem last_or {α : Type} {w : List α} {p x : α} (e : w.getLast? = some p) (h : x ∈ w) : x ∈ w.dropLast ∨ x = p := by
  have hne : w ≠ [] := fun z => by rw [z] at h; cases h
  have e2 : w.getLast hne = p := by
    rw [List.getLast?_eq_some_getLast hne] at e
    exact Option.some.inj e
  rw [← List.dropLast_concat_getLast hne, e2] at h
  rcases List.mem_append.mp h with h | h
  · exact .inl h
  · exact .inr (List.mem_singleton.mp h)
theorem last_mem {α : Type} {w : List α} {p : α} (e : w.getLast? = some p) : p ∈ w := List.mem_of_getLast? e
theorem SeInv.next {fs : Fs} {a : Str} {U w found : List Str} (nd : fs.Nodup) (hU : ∀ f ∈ fs, f.2 ∈ U) (i : SeInv fs a U w found) {p : Str} (e : w.getLast? = some p) :
    SeInv fs a U (w.dropLast ++ succs fs p found) (found ++ succs fs p found) where
  nd := List.nodup_append.mpr ⟨i.nd, nodup_succs nd p found, fun x hx y hy z => by
    subst z
    exact (mem_succs.mp hy).2 hx⟩
  sub := fun x hx => (List.mem_append.mp hx).elim (i.sub x) fun h => hU _ (mem_succs.mp h).1
  reach := fun x hx => (List.mem_append.mp hx).elim (i.reach x) fun h => .step (i.reach p (i.wf p (last_mem e))) (mem_succs.mp h).1
  st := List.mem_append_left _ i.st
  wf := fun x hx => (List.mem_append.mp hx).elim (fun h => List.mem_append_left _ (i.wf x (dropLast_mem h))) fun h => List.mem_append_right _ h
  wnd := List.nodup_append.mpr ⟨i.wnd.sublist (List.dropLast_sublist w), nodup_succs nd p found, fun x hx y hy z => by
    subst z
    exact (mem_succs.mp hy).2 (i.wf x (dropLast_mem hx))⟩
  done := fun x hx hn c hc => by
    by_cases hcf : c ∈ found
    · exact List.mem_append_left _ hcf
    · refine List.mem_append_right _ ?_
      rcases List.mem_append.mp hx with h | h
      · by_cases hw : x ∈ w
        · rcases last_or e hw with z | z
          · exact absurd (List.mem_append_left _ z) hn
          · subst z
            exact mem_succs.mpr ⟨hc, hcf⟩
        · exact absurd (i.done x h hw c hc) hcf
      · exact absurd (List.mem_append_right _ h) hn
theorem SeInv.fin {fs : Fs} {a : Str} {U found : List Str} (i : SeInv fs a U [] found) (c : Str) : c ∈ found ↔ Reach fs a c := by
  refine ⟨i.reach c, fun r => ?_⟩
  induction r with
  | refl => exact i.st
  | step _ e ih => exact i.done _ ih (by simp) _ e
theorem search_ok {fs : Fs} {a : Str} {U : List Str} (nd : fs.Nodup) (hU : ∀ f ∈ fs, f.2 ∈ U) : ∀ (n : Nat) (w found : List Str), SeInv fs a U w found → U.length + w.length < n + found.length →
    ∀ c, c ∈ search fs n w found ↔ Reach fs a c
  | 0, w, found, i, h, c => absurd (nodup_le i.nd i.sub) (by omega)
  | n + 1, w, found, i, h, c => by
    unfold search
    cases e : w.getLast? with
    | none =>
      have hw : w = [] := by simpa using e
      subst hw
      exact i.fin c
    | some p =>
      have hl : w.dropLast.length + 1 = w.length := by
        have : w ≠ [] := fun z => by rw [z] at e; cases e
        rw [List.length_dropLast]
        have := List.length_pos_iff.mpr this
        omega
      refine search_ok nd hU n _ _ (i.next nd hU e) ?_ c
      rw [List.length_append, List.length_append]
      omega
def fitB (line : List Str) (fs : Fs) : Bool := fs.all fun f => decide (line.idxOf f.1 < line.idxOf f.2)
theorem fitB_of {line : List Str} {fs : Fs} (h : fitB line fs = true) {a b : Str} (hm : (a, b) ∈ fs) : line.idxOf a < line.idxOf b := of_decide_eq_true (List.all_eq_true.mp h _ hm)
theorem reach_idx {line : List Str} {fs : Fs} (h : fitB line fs = true) {a b : Str} (r : Reach fs a b) : line.idxOf a ≤ line.idxOf b := by
  induction r with
  | refl => exact Nat.le_refl _
  | step _ e ih => exact Nat.le_trans ih (Nat.le_of_lt (fitB_of h e))
theorem no_back {line : List Str} {fs gs : Fs} (h : fitB line fs = true) (hs : ∀ f ∈ gs, f ∈ fs) {a b : Str} (hm : (a, b) ∈ fs) : ¬ Reach gs b a := fun r => by
  have h1 := reach_idx h (r.mono hs)
  have h2 := fitB_of h hm
  omega
end PD
namespace PD
open PySem PySem.Spec L2
open PyProof.Rows hiding St
theorem idx_app_mem {a : Str} {l m : List Str} (h : a ∈ l) : (l ++ m).idxOf a = l.idxOf a := by
  rw [List.idxOf_append, if_pos h]
theorem idx_app_not {a : Str} {l m : List Str} (h : a ∉ l) : (l ++ m).idxOf a = m.idxOf a + l.length := by
  rw [List.idxOf_append, if_neg h]
theorem strs_cover : ∀ (sets : List Str) (xs : List D), sets.Nodup → xs.length = sets.length → (∀ s ∈ sets, D.str s ∈ xs) → ∃ ys, xs = strsD ys ∧ ys.Perm sets
  | [], xs, _, hl, _ => ⟨[], by rw [List.length_eq_zero_iff.mp hl]; rfl, List.Perm.refl _⟩
  | s :: sets, xs, nd, hl, hm => by
    rw [List.nodup_cons] at nd
    obtain ⟨l1, l2, rfl⟩ := List.append_of_mem (hm s (List.mem_cons_self ..))
    obtain ⟨ys, e, p⟩ := strs_cover sets (l1 ++ l2) nd.2 (by simp at hl ⊢; omega) fun t ht => by
      have h := hm t (List.mem_cons_of_mem _ ht)
      rcases List.mem_append.mp h with h | h
      · exact List.mem_append_left _ h
      · rcases List.mem_cons.mp h with h | h
        · cases h
          exact absurd ht nd.1
        · exact List.mem_append_right _ h
    have e1 : l1 = strsD (ys.take l1.length) := by
      have := congrArg (List.take l1.length) e
      rw [List.take_left] at this
      exact this.trans List.map_take.symm
    have e2 : l2 = strsD (ys.drop l1.length) := by
      have := congrArg (List.drop l1.length) e
      rw [List.drop_left] at this
      exact this.trans List.map_drop.symm
    refine ⟨ys.take l1.length ++ s :: ys.drop l1.length, ?_, ?_⟩
    · show _ = List.map D.str _
      rw [List.map_append, List.map_cons]
      rw [← show l1 = List.map D.str (ys.take l1.length) from e1, ← show l2 = List.map D.str (ys.drop l1.length) from e2]
    · refine List.Perm.trans List.perm_middle (List.Perm.cons s ?_)
      rw [List.take_append_drop]
      exact p
theorem perm_of_nodup {ys sets : List Str} (nd : ys.Nodup) (hs : ∀ y ∈ ys, y ∈ sets) (nds : sets.Nodup) (hl : sets.length ≤ ys.length) : ys.Perm sets := by
  have hall : ∀ s ∈ sets, s ∈ ys := fun s h => by
    by_cases c : s ∈ ys
    · exact c
    · have := nodup_le (U := sets.erase s) nd fun y hy => (List.mem_erase_of_ne (fun z : y = s => c (z ▸ hy))).mpr (hs y hy)
      rw [List.length_erase_of_mem h] at this
      have : 0 < sets.length := List.length_pos_of_mem h
      omega
  have hle := nodup_le nds hall
  have hle2 := nodup_le nd hs
  obtain ⟨zs, e, p⟩ := strs_cover sets (strsD ys) nds (by rw [List.length_map]; omega) fun s h => List.mem_map.mpr ⟨s, hall s h, rfl⟩
  have : ys = zs := by
    have h : ∀ (l m : List Str), strsD l = strsD m → l = m := by
      intro l
      induction l with
      | nil => intro m h; cases m with
        | nil => rfl
        | cons _ _ => cases h
      | cons a l ih => intro m h; cases m with
        | nil => cases h
        | cons b m =>
          injection h with h1 h2
          injection h1 with h1
          rw [h1, ih m h2]
    exact h ys zs e
  rw [this]
  exact p
def nextsL (sets : List Str) (fs : Fs) (l : List Str) : List Str := sets.filter fun e => !l.contains e && (fs.filter fun f => f.2 == e && !l.contains f.1).isEmpty
def stepL (sets : List Str) (fs : Fs) (l : List Str) : List (List Str) := (nextsL sets fs l).map fun e => l ++ [e]
def linesN (sets : List Str) (fs : Fs) : Nat → List (List Str)
  | 0 => [[]]
  | n + 1 => (linesN sets fs n).flatMap (stepL sets fs)
theorem mem_nexts {sets : List Str} {fs : Fs} {l : List Str} {e : Str} : e ∈ nextsL sets fs l ↔ e ∈ sets ∧ e ∉ l ∧ ∀ f ∈ fs, f.2 = e → f.1 ∈ l := by
  unfold nextsL
  rw [List.mem_filter, Bool.and_eq_true]
  refine and_congr_right fun _ => and_congr (by simp) ?_
  rw [List.isEmpty_iff, List.filter_eq_nil_iff]
  constructor
  · intro h f hf e
    have := h f hf
    simp [e] at this
    exact this
  · intro h f hf
    simp only [Bool.and_eq_true, beq_iff_eq, Bool.not_eq_true', List.contains_eq_mem, decide_eq_false_iff_not, not_and, Classical.not_not]
    exact h f hf
theorem lines_len (sets : List Str) (fs : Fs) : ∀ n, (linesN sets fs n).length ≤ sets.length ^ n
  | 0 => by simp [linesN]
  | n + 1 => by
    have ih := lines_len sets fs n
    show ((linesN sets fs n).flatMap (stepL sets fs)).length ≤ _
    have key : ∀ L : List (List Str), (L.flatMap (stepL sets fs)).length ≤ L.length * sets.length := by
      intro L
      induction L with
      | nil => simp
      | cons l L ihL =>
        rw [List.flatMap_cons, List.length_append, List.length_cons, Nat.succ_mul]
        have : (stepL sets fs l).length ≤ sets.length := by
          unfold stepL nextsL
          rw [List.length_map]
          exact List.length_filter_le ..
        omega
    rw [Nat.pow_succ]
    exact Nat.le_trans (key _) (Nat.mul_le_mul_right _ ih)
def FitP (l : List Str) (fs : Fs) : Prop := ∀ f ∈ fs, f.2 ∈ l → f.1 ∈ l ∧ l.idxOf f.1 < l.idxOf f.2
theorem lines_sound {sets : List Str} {fs : Fs} : ∀ (n : Nat) (l : List Str), l ∈ linesN sets fs n → l.length = n ∧ l.Nodup ∧ (∀ x ∈ l, x ∈ sets) ∧ FitP l fs
  | 0, l, h => by
    have : l = [] := by simpa [linesN] using h
    subst this
    exact ⟨rfl, List.nodup_nil, fun _ h => (by cases h), fun _ _ h => (by cases h)⟩
  | n + 1, l, h => by
    obtain ⟨l', hl', h⟩ := List.mem_flatMap.mp h
    obtain ⟨e, he, rfl⟩ := List.mem_map.mp h
    obtain ⟨h1, h2, h3⟩ := mem_nexts.mp he
    obtain ⟨a1, a2, a3, a4⟩ := lines_sound n l' hl'
    refine ⟨by rw [List.length_append, List.length_singleton, a1], List.nodup_append.mpr ⟨a2, by simp, fun x hx y hy z => ?_⟩, fun x hx => ?_, fun f hf hm => ?_⟩
    · subst z
      exact h2 (List.mem_singleton.mp hy ▸ hx)
    · rcases List.mem_append.mp hx with h | h
      · exact a3 x h
      · rw [List.mem_singleton.mp h]; exact h1
    · have ie : (l' ++ [e]).idxOf e = l'.length := by
        rw [idx_app_not h2]
        simp
      rcases List.mem_append.mp hm with h | h
      · obtain ⟨b1, b2⟩ := a4 f hf h
        refine ⟨List.mem_append_left _ b1, ?_⟩
        rw [idx_app_mem b1, idx_app_mem h]
        exact b2
      · have ef := List.mem_singleton.mp h
        have b1 := h3 f hf ef
        refine ⟨List.mem_append_left _ b1, ?_⟩
        rw [ef, ie, idx_app_mem b1]
        exact List.idxOf_lt_length_of_mem b1
theorem lines_complete {sets : List Str} {fs : Fs} : ∀ (n : Nat) (l : List Str), l.length = n → l.Nodup → (∀ x ∈ l, x ∈ sets) → FitP l fs → l ∈ linesN sets fs n
  | 0, l, h, _, _, _ => by
    rw [List.length_eq_zero_iff.mp h]
    exact List.mem_singleton.mpr rfl
  | n + 1, l, h, nd, hs, hf => by
    have hne : l ≠ [] := fun z => by rw [z] at h; cases h
    have e := List.dropLast_concat_getLast hne
    have hl : l.dropLast.length = n := by rw [List.length_dropLast, h]; rfl
    generalize l.dropLast = l' at e hl
    generalize l.getLast hne = x at e
    subst e
    rw [List.nodup_append] at nd
    have hx : x ∉ l' := fun z => nd.2.2 x z x (List.mem_singleton.mpr rfl) rfl
    have ie : (l' ++ [x]).idxOf x = l'.length := by
      rw [idx_app_not hx]
      simp
    have before : ∀ y, y ∈ l' ++ [x] → (l' ++ [x]).idxOf y < l'.length → y ∈ l' := fun y hy hi => by
      rcases List.mem_append.mp hy with h | h
      · exact h
      · rw [List.mem_singleton.mp h, ie] at hi
        omega
    refine List.mem_flatMap.mpr ⟨l', lines_complete n l' hl nd.1 (fun y hy => hs y (List.mem_append_left _ hy)) fun f hm h2 => ?_, List.mem_map.mpr ⟨x, mem_nexts.mpr ⟨hs x (by simp), hx, fun f hm e => ?_⟩, rfl⟩⟩
    · obtain ⟨b1, b2⟩ := hf f hm (List.mem_append_left _ h2)
      have i2 := idx_app_mem (m := [x]) h2
      have i3 := List.idxOf_lt_length_of_mem h2
      have hb := before f.1 b1 (by omega)
      refine ⟨hb, ?_⟩
      rw [idx_app_mem hb, i2] at b2
      exact b2
    · obtain ⟨b1, b2⟩ := hf f hm (by rw [e]; simp)
      rw [e, ie] at b2
      exact before f.1 b1 b2
end PD
namespace PD
open PySem PySem.Spec L2
open PyProof.Rows hiding St
def lineS (f : Str × Str) : Str := f.1 ++ (" < " : Str) ++ f.2
def headS (text : Str) : Str := ("board " : Str) ++ text
def linesS (text : Str) (fs : Fs) : List Str := headS text :: fs.map lineS
def sheetS (text : Str) (fs : Fs) : Str := Txt.join ("\n" : Str) (linesS text fs)
def Short (x : Str) : Prop := 10 ∉ TL.tl x ∧ 32 ∉ TL.tl x ∧ x.length ≤ 5
theorem tl_nl : TL.tl ("\n" : Str) = [10] := by decide +kernel
theorem tl_sp : TL.tl (" " : Str) = [32] := by decide +kernel
theorem tl_lt : TL.tl (" < " : Str) = [32, 60, 32] := by decide +kernel
theorem tl_lt1 : TL.tl ("<" : Str) = [60] := by decide +kernel
theorem tl_bd : TL.tl ("board " : Str) = [98, 111, 97, 114, 100, 32] := by decide +kernel
theorem tl_bd1 : TL.tl ("board" : Str) = [98, 111, 97, 114, 100] := by decide +kernel
theorem tl_line (f : Str × Str) : TL.tl (lineS f) = TL.tl f.1 ++ [32, 60, 32] ++ TL.tl f.2 := by
  unfold lineS
  rw [TL.tl_append, TL.tl_append, tl_lt]
theorem tl_head (t : Str) : TL.tl (headS t) = [98, 111, 97, 114, 100, 32] ++ TL.tl t := by
  unfold headS
  rw [TL.tl_append, tl_bd]
theorem split_line (f : Str × Str) (h1 : Short f.1) (h2 : Short f.2) : Txt.split (lineS f) (" " : Str) = [f.1, ("<" : Str), f.2] := by
  have e : lineS f = Txt.join (" " : Str) [f.1, ("<" : Str), f.2] := by
    refine TL.ext_tl ?_
    rw [TL.join_eq, TL.tl_join, tl_line]
    show _ = TL.tl f.1 ++ (TL.tl (" " : Str) ++ (TL.tl ("<" : Str) ++ (TL.tl (" " : Str) ++ TL.tl f.2)))
    rw [tl_sp, tl_lt1]
    simp
  rw [e]
  refine TL.split_join (s := 32) (S := []) tl_sp (by decide +kernel) (by simp) fun p hp => ?_
  rcases List.mem_cons.mp hp with e | hp
  · rw [e]; exact h1.2.1
  · rcases List.mem_cons.mp hp with e | hp
    · rw [e, tl_lt1]; decide
    · rw [List.mem_singleton.mp hp]; exact h2.2.1
theorem split_head (t : Str) (h : Short t) : Txt.split (headS t) (" " : Str) = [("board" : Str), t] := by
  have e : headS t = Txt.join (" " : Str) [("board" : Str), t] := by
    refine TL.ext_tl ?_
    rw [TL.join_eq, TL.tl_join, tl_head]
    show _ = TL.tl ("board" : Str) ++ (TL.tl (" " : Str) ++ TL.tl t)
    rw [tl_sp, tl_bd1]
    simp
  rw [e]
  refine TL.split_join (s := 32) (S := []) tl_sp (by decide +kernel) (by simp) fun p hp => ?_
  rcases List.mem_cons.mp hp with e | hp
  · rw [e, tl_bd1]; decide
  · rw [List.mem_singleton.mp hp]; exact h.2.1
def FsShort (fs : Fs) : Prop := ∀ f ∈ fs, Short f.1 ∧ Short f.2
theorem split_sheet (t : Str) (fs : Fs) (h : Short t) (hf : FsShort fs) : Txt.split (sheetS t fs) ("\n" : Str) = linesS t fs := by
  refine TL.split_join (s := 10) (S := []) tl_nl (by decide +kernel) (by simp [linesS]) fun p hp => ?_
  rcases List.mem_cons.mp hp with e | hp
  · rw [e, tl_head]
    intro z
    rcases List.mem_append.mp z with z | z
    · revert z; decide
    · exact h.1 z
  · obtain ⟨f, hm, rfl⟩ := List.mem_map.mp hp
    rw [tl_line]
    intro z
    rcases List.mem_append.mp z with z | z
    · rcases List.mem_append.mp z with z | z
      · exact (hf f hm).1.1 z
      · revert z; decide
    · exact (hf f hm).2.1 z
theorem len_line_S (f : Str × Str) (h1 : Short f.1) (h2 : Short f.2) : (lineS f).length ≤ 13 := by
  have a := h1.2.2
  have b := h2.2.2
  rw [TL.len_tl] at a b ⊢
  rw [tl_line]
  simp only [List.length_append, List.length_cons, List.length_nil]
  omega
theorem len_head_S (t : Str) (h : Short t) : (headS t).length ≤ 11 := by
  have a := h.2.2
  rw [TL.len_tl] at a ⊢
  rw [tl_head]
  simp only [List.length_append, List.length_cons, List.length_nil]
  omega
theorem sum_lines : ∀ (fs : Fs), FsShort fs → ((fs.map lineS).map (·.length)).sum ≤ 13 * fs.length
  | [], _ => Nat.le_refl _
  | f :: fs, h => by
    have h1 := len_line_S f (h f (List.mem_cons_self ..)).1 (h f (List.mem_cons_self ..)).2
    have h2 := sum_lines fs fun g hg => h g (List.mem_cons_of_mem _ hg)
    simp only [List.map_cons, List.sum_cons, List.length_cons]
    omega
theorem sum_linesS (t : Str) (fs : Fs) (h : Short t) (hf : FsShort fs) : ((linesS t fs).map (·.length)).sum + (linesS t fs).length * ("\n" : Str).length ≤ 12 + 14 * fs.length := by
  have h1 := len_head_S t h
  have h2 := sum_lines fs hf
  have h3 : ("\n" : Str).length = 1 := by decide +kernel
  unfold linesS
  rw [h3]
  simp only [List.map_cons, List.sum_cons, List.length_cons, List.length_map] at h2 ⊢
  omega
theorem joinL_len (S : List Nat) : ∀ parts : List (List Nat), (TL.joinL S parts).length ≤ (parts.map List.length).sum + parts.length * S.length
  | [] => by simp [TL.joinL]
  | [p] => by simp [TL.joinL]
  | p :: q :: r => by
    have ih := joinL_len S (q :: r)
    show (p ++ (S ++ TL.joinL S (q :: r))).length ≤ _
    simp only [List.length_append, List.map_cons, List.sum_cons, List.length_cons] at ih ⊢
    have : (r.length + 1 + 1) * S.length = (r.length + 1) * S.length + S.length := Nat.succ_mul _ _
    omega
theorem len_sheet (t : Str) (fs : Fs) (h : Short t) (hf : FsShort fs) : (sheetS t fs).length ≤ 12 + 14 * fs.length := by
  have h1 := joinL_len (TL.tl ("\n" : Str)) ((linesS t fs).map TL.tl)
  have h2 := sum_linesS t fs h hf
  unfold sheetS
  rw [TL.len_tl, TL.join_eq, TL.tl_join]
  refine Nat.le_trans h1 ?_
  rw [List.map_map, List.length_map]
  have e : (linesS t fs).map (List.length ∘ TL.tl) = (linesS t fs).map (·.length) := List.map_congr_left fun x _ => (TL.len_tl x).symm
  rw [e, ← TL.len_tl]
  exact h2
end PD
namespace G
open PySem PySem.Spec L2 PD
open PyProof.Rows hiding St
theorem take_pos (n : Nat) (k : Int) (hk : 0 < k) (hk2 : k < 1073741824) : Pos n (m__law_take [.id n, .int k]) fun d => ∃ r : Int, d = .int r ∧ 0 ≤ r ∧ r < k := by
  intro g ⟨s, d, c, e, hs, hs2, hd⟩
  have hh : s / 4093 < 2147483587 := Int.lt_of_le_of_lt (Int.ediv_le_self _ hs) hs2
  have hh0 : 0 ≤ s / 4093 := Int.ediv_nonneg hs (by decide)
  let t : Int := s * 39373 + s / 4093 * (s / 4093) + 92821 * (c + 1) + 5
  let s' : Int := t % 2147483587
  have hs' : 0 ≤ s' := Int.emod_nonneg _ (by decide)
  have hs2' : s' < 2147483587 := Int.emod_lt_of_pos _ (by decide)
  have e1 := set_bag (y := .lst [.int s, .int d, .int (c + 1)]) e
  have e2 := set_bag (y := .lst [.int s', .int d, .int (c + 1)]) e1
  have R : ∀ (r : Int) (d' : Int), 0 ≤ r → r < k → 0 ≤ d' → ∀ g' : GS, g' = g.set n (.lst [.int s', .int d', .int (c + 1)]) → (∃ x : Int, D.int r = .int x ∧ 0 ≤ x ∧ x < k) ∧ BagAt g' n ∧ g'.length = g.length ∧ ∀ j, j ≠ n → g'[j]? = g[j]? := fun r d' h1 h2 h3 g' eg =>
    ⟨⟨r, rfl, h1, h2⟩, ⟨s', d', c + 1, by rw [eg]; exact set_bag e, hs', hs2', h3⟩, by rw [eg, List.length_set], fun j hj => by rw [eg, List.getElem?_set_ne (Ne.symm hj)]⟩
  show EvX (m__law_take [.id n, .int k]) g fun a g' => (∃ r : Int, a = .int r ∧ 0 ≤ r ∧ r < k) ∧ BagAt g' n ∧ g'.length = g.length ∧ ∀ j, j ≠ n → g'[j]? = g[j]?
  unfold m__law_take
  simp only [runS, seqF, b2, b1, aCons, aNil, mIf, mRet, bind_assoc, pure_bind]
  refine EvX.bind (Ev.ix e rfl) ?_
  simp only [d_addi, pure_bind]
  refine EvX.bind (Ev.put e rfl) ?_
  refine EvX.bind (Ev.ix e1 rfl) ?_
  simp only [f_inti, pure_bind, d_div s 4093 ⟨by decide, by decide⟩, d_mul s 39373 (.inr ⟨by decide, by decide⟩), d_mul (s / 4093) (s / 4093) (.inl ⟨by omega, by omega⟩), d_addi]
  refine EvX.bind (Ev.ix e1 rfl) ?_
  simp only [pure_bind, d_mul 92821 (c + 1) (.inl ⟨by decide, by decide⟩), d_addi, f_inti, d_mod _ 2147483587 (by decide)]
  refine EvX.bind (Ev.put e1 rfl) ?_
  refine EvX.bind (Ev.ix e2 rfl) ?_
  simp only [pure_bind, d_gt, asB]
  by_cases hd0 : 0 < d
  · rw [decide_eq_true hd0, if_pos rfl]
    simp only [bind_assoc]
    refine EvX.bind (Ev.ix e2 rfl) ?_
    simp only [pure_bind, f_divmod d k ⟨hk, hk2⟩, un2]
    simp only [bind_assoc]
    refine EvX.bind (Ev.put e2 rfl) ?_
    simp only [pure_bind, endF]
    exact EvX.pure (R (d % k) (d / k) (Int.emod_nonneg _ (by omega)) (Int.emod_lt_of_pos _ hk) (Int.ediv_nonneg hd (by omega)) _ (by simp [List.set_set, s', t]))
  · rw [decide_eq_false hd0, if_neg (by simp)]
    simp only [pure_bind, bind_assoc]
    refine EvX.bind (Ev.ix e2 rfl) ?_
    simp only [pure_bind, d_div s' 512 ⟨by decide, by decide⟩, f_inti, d_mod _ k hk, endF]
    exact EvX.pure (R (s' / 512 % k) d (Int.emod_nonneg _ (by omega)) (Int.emod_lt_of_pos _ hk) hd _ (by simp [List.set_set, s', t]))
end G
namespace G
open PySem PySem.Spec L2 PD
open PyProof.Rows hiding St
theorem rng1 (m : Nat) (h : m < 2 ^ 62) : fRange1 [.int m] = pure ((List.range m).map fun (i : Nat) => D.int (i : Nat)) := by
  show rngD 0 m = _
  unfold rngD
  rw [if_pos ⟨by omega, by omega, by omega, by omega⟩]
  simp
theorem ixA_lst {xs : List D} {r : Int} (h0 : 0 ≤ r) (h1 : r < xs.length) : ∃ d, xs[r.toNat]? = some d ∧ dIxA (.lst xs) (.int r) = pure d := by
  have hl : r.toNat < xs.length := by omega
  refine ⟨xs[r.toNat], List.getElem?_eq_getElem hl, ?_⟩
  show (match atI xs r with
    | some d => pure d
    | none => stuck : M D) = _
  unfold atI ixN
  rw [if_pos h0, if_pos h1]
  show (match xs[r.toNat]? with
    | some d => pure d
    | none => stuck : M D) = _
  rw [List.getElem?_eq_getElem hl]
theorem ixA_tup {xs : List D} {r : Int} (h0 : 0 ≤ r) (h1 : r < xs.length) : ∃ d, xs[r.toNat]? = some d ∧ dIxA (.tup xs) (.int r) = pure d := by
  have hl : r.toNat < xs.length := by omega
  refine ⟨xs[r.toNat], List.getElem?_eq_getElem hl, ?_⟩
  show (match atI xs r with
    | some d => pure d
    | none => stuck : M D) = _
  unfold atI ixN
  rw [if_pos h0, if_pos h1]
  show (match xs[r.toNat]? with
    | some d => pure d
    | none => stuck : M D) = _
  rw [List.getElem?_eq_getElem hl]
theorem e_take (n : Nat) (k : Int) : cB 2 m__law_take (fun ds _ => ds) [.id n, .int k] = m__law_take [.id n, .int k] := rfl
theorem of_pos (n : Nat) (xs : List D) (h : xs ≠ []) (hl : xs.length < 1073741824) : Pos n (m__law_of [.id n, .lst xs]) fun d => d ∈ xs := by
  have hp : 0 < xs.length := List.length_pos_iff.mpr h
  unfold m__law_of
  simp only [runS, mRet, b2, aCons, aNil, pure_bind, bind_assoc, d_lenl, e_take]
  refine Pos.bind (take_pos n xs.length (by omega) (by omega)) fun d ⟨r, e, h0, h1⟩ => ?_
  subst e
  obtain ⟨d, e1, e2⟩ := ixA_lst h0 h1
  rw [e2]
  exact Pos.pure (List.mem_of_getElem? e1)
theorem e_of (n : Nat) (d : D) : cB 2 m__law_of (fun ds _ => ds) [.id n, d] = m__law_of [.id n, d] := rfl
theorem pow_18 : dPow (.int 10) (.int 18) = pure (.int 1000000000000000000) := by kernel_rfl
theorem scr_lt (ns : List Int) (i : Nat) (h : i < ns.length) : ∃ c : Int, dIxA (.scr (ns.map D.int)) (.int (i : Nat)) = pure (.int c) := by
  refine ⟨ns[i], ?_⟩
  show (match atI (ns.map D.int) (i : Nat) with
    | some d => pure d
    | none => stuck : M D) = _
  unfold atI ixN
  rw [if_pos (by omega), if_pos (by rw [List.length_map]; omega)]
  show (match (ns.map D.int)[((i : Nat) : Int).toNat]? with
    | some d => pure d
    | none => stuck : M D) = _
  rw [Int.toNat_natCast, List.getElem?_map, List.getElem?_eq_getElem h]
  rfl
theorem bag_for {b : D → D → M (Fl D)} (hb : ∀ c p : Int, ∃ c' : Int, b (.int c) (.int p) = pure (.nx (.int c'))) : ∀ (ps : List Int) (c : Int), ∃ c' : Int, forD b (ps.map D.int) (.int c) = pure (.nx (.int c'))
  | [], c => ⟨c, rfl⟩
  | p :: ps, c => by
    obtain ⟨c1, e1⟩ := hb c p
    obtain ⟨c2, e2⟩ := bag_for hb ps c1
    refine ⟨c2, ?_⟩
    show (b (.int c) (.int p) >>= _) = _
    rw [e1, pure_bind]
    exact e2
theorem bag_ev (ns : List Int) (i : Nat) (hi : i < 1000000) (g : GS) : ∃ s d : Int, m__law_bag [.scr (ns.map D.int), .int (i : Nat)] g = .ok (.id g.length) (g ++ [.lst [.int s, .int d, .int 0]]) ∧ 0 ≤ s ∧ s < 2147483587 ∧ 0 ≤ d := by
  have fin : ∀ c : Int, ∃ s d : Int, (∀ S : Type, (mRet ((aCons (b2 dMod (aCons (pure (D.int c)) aNil D fInt) (pure (D.int 2147483587))) (aCons (mIf (mOr (b1 asB (b2 dLt (pure (D.int c)) (pure (D.int 0)))) (b1 asB (b2 dGe (pure (D.int c)) (b2 dPow (pure (D.int 10)) (pure (D.int 18)))))) (aCons (pure (D.int c)) aNil D fAbs) (pure (D.int 0))) (aCons (pure (D.int 0)) aNil))) (List D) nLst >>= mNew) : M (Fl S)) = mNew [.int s, .int d, .int 0] >>= fun x => pure (.ret x)) ∧ 0 ≤ s ∧ s < 2147483587 ∧ 0 ≤ d := by
    intro c
    have m0 : (0 : Int) ≤ c % 2147483587 := Int.emod_nonneg _ (by decide)
    have m1 : c % 2147483587 < 2147483587 := Int.emod_lt_of_pos _ (by decide)
    by_cases h1 : c < 0
    · refine ⟨c % 2147483587, -c, fun S => ?_, m0, m1, by omega⟩
      simp only [mRet, aCons, aNil, b2, b1, pure_bind, f_inti, d_mod _ 2147483587 (by decide), mIf, mOr, d_lt, decide_eq_true h1, asB, if_true, f_abs, if_pos h1]
      rw [n_lst _ (by show 3 ≤ 16777216; decide)]
      rfl
    · by_cases h2 : 1000000000000000000 ≤ c
      · refine ⟨c % 2147483587, c, fun S => ?_, m0, m1, by omega⟩
        simp only [mRet, aCons, aNil, b2, b1, pure_bind, f_inti, d_mod _ 2147483587 (by decide), mIf, mOr, d_lt, decide_eq_false h1, asB, Bool.false_eq_true, if_false, pow_18, d_ge, decide_eq_true h2, if_true, f_abs, if_neg h1]
        rw [n_lst _ (by show 3 ≤ 16777216; decide)]
        rfl
      · refine ⟨c % 2147483587, 0, fun S => ?_, m0, m1, by omega⟩
        simp only [mRet, aCons, aNil, b2, b1, pure_bind, f_inti, d_mod _ 2147483587 (by decide), mIf, mOr, d_lt, decide_eq_false h1, asB, Bool.false_eq_true, if_false, pow_18, d_ge, decide_eq_false h2]
        rw [n_lst _ (by show 3 ≤ 16777216; decide)]
        rfl
  have hb : ∀ c p : Int, ∃ c' : Int, on1 (fun c3 => (b2 dMod (aCons (b2 dAdd (b2 dMul (pure (D.int c)) (pure (D.int 37))) (pure c3)) aNil D fInt) (pure (D.int 2147483587))) >>= fun v4 => (pure (.nx v4) : M (Fl D))) (.int p) = pure (.nx (.int c')) := fun c p => ⟨(c * 37 + p) % 2147483587, by
    simp only [on1, b2, pure_bind, d_mul c 37 (.inr ⟨by decide, by decide⟩), d_addi, aCons, aNil, f_inti, d_mod _ 2147483587 (by decide)]⟩
  have e1 : ∃ c : Int, (mIf (b1 asB (b2 dLt (pure (D.int (i : Nat))) (aCons (pure (D.scr (ns.map D.int))) aNil D dLen))) (b2 dIxA (pure (D.scr (ns.map D.int))) (pure (D.int (i : Nat)))) (b2 dAdd (b2 dMul (pure (D.int 6151)) (pure (D.int (i : Nat)))) (pure (D.int 98317)))) = pure (.int c) := by
    simp only [mIf, b1, b2, aCons, aNil, pure_bind, d_lenr, d_lt, asB, List.length_map]
    by_cases h : ((i : Nat) : Int) < (ns.length : Nat)
    · obtain ⟨c, e⟩ := scr_lt ns i (by omega)
      refine ⟨c, ?_⟩
      simp only [decide_eq_true h, if_true, e]
    · refine ⟨6151 * (i : Nat) + 98317, ?_⟩
      simp only [decide_eq_false h, Bool.false_eq_true, if_false, d_mul 6151 (i : Nat) (.inl ⟨by decide, by decide⟩), pure_bind, d_addi]
  have e2 : ∃ ps : List Int, (b1 items (mIf (b1 asB (b2 dGe (pure (D.int (i : Nat))) (aCons (pure (D.scr (ns.map D.int))) aNil D dLen))) (mSl (pure (D.scr (ns.map D.int))) (pure none) (b1 asI (pure (D.int 3)))) (aNil D dLst))) = pure (ps.map D.int) := by
    simp only [mIf, b1, b2, aCons, aNil, pure_bind, d_lenr, d_ge, asB, List.length_map, asI, mSl]
    by_cases h : ((ns.length : Nat) : Int) ≤ (i : Nat)
    · refine ⟨cutL ns none (some 3), ?_⟩
      simp only [decide_eq_true h, if_true, dSl, pure_bind, items]
      unfold cutL
      simp only [List.map_take, List.map_drop, List.length_map]
    · refine ⟨[], ?_⟩
      simp only [decide_eq_false h, Bool.false_eq_true, if_false, d_lst [] (by show 0 ≤ 16777216; decide), pure_bind, items, List.map_nil]
  obtain ⟨c, e1⟩ := e1
  obtain ⟨ps, e2⟩ := e2
  obtain ⟨c', e3⟩ := bag_for (b := fun s2 d => on1 (fun c3 => (b2 dMod (aCons (b2 dAdd (b2 dMul (pure s2) (pure (D.int 37))) (pure c3)) aNil D fInt) (pure (D.int 2147483587))) >>= fun v4 => (pure (.nx v4) : M (Fl D))) d) hb ps c
  obtain ⟨s, d, h, h1, h2, h3⟩ := fin c'
  refine ⟨s, d, ?_, h1, h2, h3⟩
  unfold m__law_bag
  show runS (S := Unit) _ g = _
  rw [e1, pure_bind, e2, pure_bind, e3, e_nx, h Unit]
  rfl
theorem Ev.nox {α : Type} {m : M α} {g g' : GS} {a : α} (h : Ev m g a g') : Ev (nox m) g a g' := by
  show PD.nox m g = _
  unfold PD.nox
  rw [show m g = .ok a g' from h]
theorem bag_at (g : GS) (s d : Int) (h1 : 0 ≤ s) (h2 : s < 2147483587) (h3 : 0 ≤ d) : BagAt (g ++ [.lst [.int s, .int d, .int 0]]) g.length := ⟨s, d, 0, by rw [List.getElem?_append_right (Nat.le_refl _), Nat.sub_self]; rfl, h1, h2, h3⟩
theorem spots_ev (r : List D → M D) (hr : ∀ n, Pos n (r [.id n]) fun d => d = .bl true) (ns : List Int) : ∀ (is : List Nat) (acc : List D) (g : GS), (∀ i ∈ is, i < 1000000) → acc.length + is.length ≤ 1000 →
    ∃ g', Ev (lcD (fun d => on1 (lcB (fun c5 => pure true) (fun c5 => (aCons ((aCons (pure (D.scr (ns.map D.int))) (aCons (pure c5) aNil)) D (cB 2 m__law_bag fun ds _ => ds)) aNil) D (cB 1 r fun ds _ => ds))) d) (is.map fun (i : Nat) => D.int (i : Nat)) acc) g (acc ++ List.replicate is.length (.bl true)) g'
  | [], acc, g, _, _ => ⟨g, by rw [List.length_nil, List.replicate_zero, List.append_nil]; exact Ev.pure⟩
  | i :: is, acc, g, hi, hl => by
    rw [List.length_cons] at hl
    obtain ⟨s, d, eb, h1, h2, h3⟩ := bag_ev ns i (hi i (List.mem_cons_self ..)) g
    obtain ⟨a, g2, er, ea, _⟩ := hr g.length _ (bag_at g s d h1 h2 h3)
    subst ea
    obtain ⟨g3, e3⟩ := spots_ev r hr ns is (acc ++ [.bl true]) g2 (fun j hj => hi j (List.mem_cons_of_mem _ hj)) (by rw [List.length_append, List.length_singleton]; omega)
    refine ⟨g3, ?_⟩
    have ex : acc ++ List.replicate (i :: is).length (D.bl true) = acc ++ [.bl true] ++ List.replicate is.length (.bl true) := by rw [List.length_cons, List.replicate_succ]; simp
    rw [ex]
    show Ev (nox (on1 _ _) >>= _) g _ g3
    refine Ev.bind (a := some (.bl true)) (Ev.nox (g' := g2) ?_) ?_
    · simp only [on1, lcB, pure_bind, if_true, aCons, aNil]
      exact Ev.bind (Ev.bind (a := .id g.length) (show Ev (cB 2 m__law_bag (fun ds x => ds) [D.scr (List.map D.int ns), D.int (i : Nat)]) g (.id g.length) (g ++ [MO.lst [D.int s, D.int d, D.int 0]]) from eb) (show Ev (cB 1 r (fun ds x => ds) [D.id g.length]) (g ++ [MO.lst [D.int s, D.int d, D.int 0]]) (.bl true) g2 from er)) Ev.pure
    · show Ev (if acc.length < sizeLine then lcD _ _ (acc ++ [.bl true]) else stuck) g2 _ g3
      rw [if_pos (by show acc.length < 16777216; omega)]
      exact e3
theorem bools_true : ∀ n : Nat, fAll [.lst (List.replicate n (.bl true))] = pure (.bl true) := by
  intro n
  have e : bools (List.replicate n (.bl true)) = some (List.replicate n true) := by
    induction n with
    | zero => rfl
    | succ n ih =>
      rw [List.replicate_succ, List.replicate_succ]
      rw [bools, ih]
      rfl
  show (match bools (List.replicate n (.bl true)) with
    | some bs => pure (.bl (bs.all id))
    | none => stuck : M D) = _
  rw [e]
  show (pure (.bl ((List.replicate n true).all id)) : M D) = _
  congr 2
  rw [List.all_eq_true]
  intro x hx
  exact (List.mem_replicate.mp hx).2
theorem all_ev (r : List D → M D) (hr : ∀ n, Pos n (r [.id n]) fun d => d = .bl true) (ns : List Int) (h : ns.length ≤ 63) (K : Int) (hK0 : 0 ≤ K) (hK : K ≤ 100) (g : GS) :
    ∃ g', Ev (aCons (mLst (((aCons (aCons (pure (D.int 2)) (aCons (aCons (aCons (pure (D.scr (ns.map D.int))) aNil D dLen) (aCons (pure (D.int K)) aNil) D fMin2) aNil) D fMax2) aNil) (List D) fRange1) >>= fun ds => lcD (fun d => on1 (lcB (fun c5 => pure true) (fun c5 => (aCons ((aCons (pure (D.scr (ns.map D.int))) (aCons (pure c5) aNil)) D (cB 2 m__law_bag fun ds _ => ds)) aNil) D (cB 1 r fun ds _ => ds))) d) ds [])) aNil D fAll) g (.bl true) g' := by
  have e1 : ∃ m : Nat, m < 200 ∧ (((aCons (aCons (pure (D.int 2)) (aCons (aCons (aCons (pure (D.scr (ns.map D.int))) aNil D dLen) (aCons (pure (D.int K)) aNil) D fMin2) aNil) D fMax2) aNil) (List D) fRange1)) = pure ((List.range m).map fun (i : Nat) => D.int (i : Nat)) := by
    simp only [aCons, aNil, pure_bind, d_lenr, List.length_map, fMin2, fMax2]
    let x : Int := if K < ((ns.length : Nat) : Int) then K else ((ns.length : Nat) : Int)
    let y : Int := if x > 2 then x else 2
    have hy : 0 ≤ y ∧ y < 200 := by
      show 0 ≤ (if x > 2 then x else 2) ∧ (if x > 2 then x else 2) < 200
      have hx : 0 ≤ x ∧ x < 150 := by
        show 0 ≤ (if K < ((ns.length : Nat) : Int) then K else ((ns.length : Nat) : Int)) ∧ (if K < ((ns.length : Nat) : Int) then K else ((ns.length : Nat) : Int)) < 150
        split <;> omega
      split <;> omega
    refine ⟨y.toNat, by omega, ?_⟩
    have := rng1 y.toNat (by omega)
    rw [Int.toNat_of_nonneg hy.1] at this
    exact this
  obtain ⟨m, hm, e1⟩ := e1
  obtain ⟨g', e2⟩ := spots_ev r hr ns (List.range m) [] g (fun i hi => by have := List.mem_range.mp hi; omega) (by rw [List.length_range, List.length_nil]; omega)
  refine ⟨g', ?_⟩
  rw [e1]
  show Ev (mLst (_ >>= _) >>= fun x => fAll [x]) g _ g'
  rw [pure_bind]
  refine Ev.bind (a := .lst ([] ++ List.replicate (List.range m).length (.bl true))) (Ev.bind e2 Ev.pure) ?_
  rw [List.nil_append, bools_true]
  exact Ev.pure
end G
namespace G
open PySem PySem.Spec L2 PD
open PyProof.Rows hiding St
section
variable {α : Type}
theorem e_isO (c : Str) (f : D → M D) (x : D) : isO c f (.obj c x) = f (.obj c x) := if_pos rfl
theorem e_calm (a : α) : calm (pure a : M α) = pure a := rfl
theorem e_both (c : Str) (x : D) : oBoth (.obj c x) = pure x := rfl
theorem e_cB1 (m : List D → M D) (a : D) : cB 1 m (fun ds _ => ds) [a] = m [a] := rfl
theorem e_cB2 (m : List D → M D) (a b : D) : cB 2 m (fun ds _ => ds) [a, b] = m [a, b] := rfl
theorem e_cB3 (m : List D → M D) (a b c : D) : cB 3 m (fun ds _ => ds) [a, b, c] = m [a, b, c] := rfl
theorem e_cB4 (m : List D → M D) (a b c d : D) : cB 4 m (fun ds _ => ds) [a, b, c, d] = m [a, b, c, d] := rfl
theorem e_cI1 (c : Str) (m : List D → M D) (a : D) : cI c 1 m (fun ds _ => ds) [a] = m [a] >>= fun d => pure (.obj c d) := if_pos rfl
theorem e_cI2 (c : Str) (m : List D → M D) (a b : D) : cI c 2 m (fun ds _ => ds) [a, b] = m [a, b] >>= fun d => pure (.obj c d) := if_pos rfl
theorem e_endr {S : Type} (d : D) : endF (.ret d : Fl S) = pure d := rfl
theorem e_endn {S : Type} (s : S) : endF (.nx s : Fl S) = pure .non := rfl
theorem e_len2 (x y : D) : decide ((([x, y] : List D).length : Int) = 2) = true := rfl
theorem e_len3 (x y z : D) : decide ((([x, y, z] : List D).length : Int) = 3) = true := rfl
theorem c_tupl (xs : List D) : cTuple [.lst xs] = pure (.tup xs) := rfl
theorem c_tupt (xs : List D) : cTuple [.tup xs] = pure (.tup xs) := rfl
end
def lstep (p : Str) (st : List Str × List Str) (f : Str × Str) : List Str × List Str := if (f.1 == p && !st.1.contains f.2) = true then (st.1 ++ [f.2], st.2 ++ [f.2]) else st
theorem lstep_fold (p : Str) (found : List Str) : ∀ (gs : Fs) (l0 w : List Str), gs.Nodup → (∀ f ∈ gs, f.1 = p → f.2 ∉ l0) → gs.foldl (lstep p) (found ++ l0, w) = (found ++ l0 ++ succs gs p found, w ++ succs gs p found)
  | [], l0, w, _, _ => by simp [succs]
  | g :: gs, l0, w, nd, h => by
    rw [List.nodup_cons] at nd
    rw [List.foldl_cons]
    unfold lstep
    have hg := h g (List.mem_cons_self ..)
    by_cases c : (g.1 == p && !found.contains g.2) = true
    · have c1 : g.1 = p := by simp only [Bool.and_eq_true] at c; exact eq_of_beq c.1
      have c2 : (!(found ++ l0).contains g.2) = true := by
        simp only [Bool.and_eq_true] at c
        have := c.2
        have h0 := hg c1
        simp only [Bool.not_eq_true', List.contains_eq_mem, List.mem_append, decide_eq_false_iff_not] at this ⊢
        exact fun z => z.elim this h0
      rw [if_pos (by rw [Bool.and_eq_true]; exact ⟨by rw [c1]; exact beq_self_eq_true p, c2⟩)]
      have ih := lstep_fold p found gs (l0 ++ [g.2]) (w ++ [g.2]) nd.2 fun f hf e hm => by
        rcases List.mem_append.mp hm with z | z
        · exact h f (List.mem_cons_of_mem _ hf) e z
        · refine nd.1 ?_
          have : f = g := Prod.ext (e.trans c1.symm) (List.mem_singleton.mp z)
          rw [← this]
          exact hf
      unfold lstep at ih
      have e : succs (g :: gs) p found = g.2 :: succs gs p found := by unfold succs; rw [List.filter_cons, if_pos c, List.map_cons]
      rw [e]
      rw [← List.append_assoc] at ih
      rw [ih]
      simp
    · have c2 : ¬ (g.1 == p && !(found ++ l0).contains g.2) = true := by
        intro z
        apply c
        simp only [Bool.and_eq_true, Bool.not_eq_true', List.contains_eq_mem, List.mem_append, decide_eq_false_iff_not] at z ⊢
        exact ⟨z.1, fun y => z.2 (.inl y)⟩
      rw [if_neg c2]
      have ih := lstep_fold p found gs l0 w nd.2 fun f hf e => h f (List.mem_cons_of_mem _ hf) e
      unfold lstep at ih
      have e : succs (g :: gs) p found = succs gs p found := by unfold succs; rw [List.filter_cons, if_neg c]
      rw [e, ih]
theorem prs_cons (g : Str × Str) (gs : Fs) : prsD (g :: gs) = D.tup [.str g.1, .str g.2] :: prsD gs := rfl
theorem strs_cons (g : Str) (gs : List Str) : strsD (g :: gs) = D.str g :: strsD gs := rfl
abbrev prD (f : Str × Str) : D := D.tup [.str f.1, .str f.2]
theorem succs_len (fs : Fs) (p : Str) (found : List Str) : (succs fs p found).length ≤ fs.length := by
  unfold succs
  rw [List.length_map]
  exact List.length_filter_le ..
theorem leads_for (fs : Fs) (p : Str) (found w : List Str) (nd : fs.Nodup) (hf : found.length + fs.length ≤ 100000) (hw : w.length + fs.length ≤ 100000) :
    forD (S := List D × List D) (fun s5 d => on2 (fun c6 => mIf (mAnd (b1 asB (b2 dEq (pure c6.1) (pure (D.str p)))) (b1 asB (b2 qNotIn (pure c6.2) (pure (false, s5.1))))) (mApp (pure c6.2) s5.1 fun v7 => mApp (pure c6.2) s5.2 fun v8 => pure (.nx (s5.1 ++ [v7], s5.2 ++ [v8]))) (pure (.nx (s5.1, s5.2)))) d) (prsD fs) (strsD found, strsD w) = pure (.nx (strsD (found ++ succs fs p found), strsD (w ++ succs fs p found))) := by
  have key : ∀ (gs : Fs) (st : List Str × List Str), st.1.length + gs.length ≤ 100000 → st.2.length + gs.length ≤ 100000 → forD (S := List D × List D) (fun s5 d => on2 (fun c6 => mIf (mAnd (b1 asB (b2 dEq (pure c6.1) (pure (D.str p)))) (b1 asB (b2 qNotIn (pure c6.2) (pure (false, s5.1))))) (mApp (pure c6.2) s5.1 fun v7 => mApp (pure c6.2) s5.2 fun v8 => pure (.nx (s5.1 ++ [v7], s5.2 ++ [v8]))) (pure (.nx (s5.1, s5.2)))) d) (prsD gs) (strsD st.1, strsD st.2) = pure (.nx (strsD (gs.foldl (lstep p) st).1, strsD (gs.foldl (lstep p) st).2)) := by
    intro gs
    induction gs with
    | nil => intro st _ _; rfl
    | cons g gs ih =>
      intro st h1 h2
      rw [List.length_cons] at h1 h2
      rw [prs_cons, List.foldl_cons, forD_nx]
      have e : (on2 (fun c6 => mIf (mAnd (b1 asB (b2 dEq (pure c6.1) (pure (D.str p)))) (b1 asB (b2 qNotIn (pure c6.2) (pure (false, strsD st.1))))) (mApp (pure c6.2) (strsD st.1) fun v7 => mApp (pure c6.2) (strsD st.2) fun v8 => pure (.nx (strsD st.1 ++ [v7], strsD st.2 ++ [v8]))) (pure (.nx (strsD st.1, strsD st.2)))) (prD g) : M (Fl (List D × List D))) = pure (.nx (strsD (lstep p st g).1, strsD (lstep p st g).2)) := by
        simp only [runS, seqF, b1, b2, aCons, aNil, mIf, mAnd, mOr, mNot, vAnd, vOr, vNot, mRet, mLst, mTwo, mSl, on1, lcB, e_on2, e_on4, pure_bind, bind_assoc, asB, asI, e_isO, e_calm, e_both, e_cB1, e_cB2, e_cB3, e_cB4, e_endr, e_endn, if_true, if_false, Bool.false_eq_true, Bool.not_true, Bool.not_false, it_lst, it_tup, d_lenl, d_lent, List.length_map, ix_t0, ix_t1, ix_l0, ix_l1, c_tupl, c_tupt, asQ, qList, qLen, d_addi, d_sub, d_gt, d_lt, d_le, d_ge, PD.eq_int, PD.ne_int, PD.eq_str, PD.ne_str, qnin]
        unfold lstep
        by_cases c1 : (g.1 == p) = true
        · rw [c1]
          simp only [runS, seqF, b1, b2, aCons, aNil, mIf, mAnd, mOr, mNot, vAnd, vOr, vNot, mRet, mLst, mTwo, mSl, on1, lcB, e_on2, e_on4, pure_bind, bind_assoc, asB, asI, e_isO, e_calm, e_both, e_cB1, e_cB2, e_cB3, e_cB4, e_endr, e_endn, if_true, if_false, Bool.false_eq_true, Bool.not_true, Bool.not_false, it_lst, it_tup, d_lenl, d_lent, List.length_map, ix_t0, ix_t1, ix_l0, ix_l1, c_tupl, c_tupt, asQ, qList, qLen, d_addi, d_sub, d_gt, d_lt, d_le, d_ge, PD.eq_int, PD.ne_int, PD.eq_str, PD.ne_str]
          by_cases c2 : (!st.1.contains g.2) = true
          · rw [c2]
            simp only [runS, seqF, b1, b2, aCons, aNil, mIf, mAnd, mOr, mNot, vAnd, vOr, vNot, mRet, mLst, mTwo, mSl, on1, lcB, e_on2, e_on4, pure_bind, bind_assoc, asB, asI, e_isO, e_calm, e_both, e_cB1, e_cB2, e_cB3, e_cB4, e_endr, e_endn, if_true, if_false, Bool.false_eq_true, Bool.not_true, Bool.not_false, it_lst, it_tup, d_lenl, d_lent, List.length_map, ix_t0, ix_t1, ix_l0, ix_l1, c_tupl, c_tupt, asQ, qList, qLen, d_addi, d_sub, d_gt, d_lt, d_le, d_ge, PD.eq_int, PD.ne_int, PD.eq_str, PD.ne_str, mApp, if_pos (lt_line (show st.1.length ≤ 1000000 by omega)), if_pos (lt_line (show st.2.length ≤ 1000000 by omega))]
            simp
          · rw [Bool.not_eq_true] at c2
            rw [c2]
            simp only [runS, seqF, b1, b2, aCons, aNil, mIf, mAnd, mOr, mNot, vAnd, vOr, vNot, mRet, mLst, mTwo, mSl, on1, lcB, e_on2, e_on4, pure_bind, bind_assoc, asB, asI, e_isO, e_calm, e_both, e_cB1, e_cB2, e_cB3, e_cB4, e_endr, e_endn, if_true, if_false, Bool.false_eq_true, Bool.not_true, Bool.not_false, it_lst, it_tup, d_lenl, d_lent, List.length_map, ix_t0, ix_t1, ix_l0, ix_l1, c_tupl, c_tupt, asQ, qList, qLen, d_addi, d_sub, d_gt, d_lt, d_le, d_ge, PD.eq_int, PD.ne_int, PD.eq_str, PD.ne_str]
            simp
        · rw [Bool.not_eq_true] at c1
          rw [c1]
          simp only [runS, seqF, b1, b2, aCons, aNil, mIf, mAnd, mOr, mNot, vAnd, vOr, vNot, mRet, mLst, mTwo, mSl, on1, lcB, e_on2, e_on4, pure_bind, bind_assoc, asB, asI, e_isO, e_calm, e_both, e_cB1, e_cB2, e_cB3, e_cB4, e_endr, e_endn, if_true, if_false, Bool.false_eq_true, Bool.not_true, Bool.not_false, it_lst, it_tup, d_lenl, d_lent, List.length_map, ix_t0, ix_t1, ix_l0, ix_l1, c_tupl, c_tupt, asQ, qList, qLen, d_addi, d_sub, d_gt, d_lt, d_le, d_ge, PD.eq_int, PD.ne_int, PD.eq_str, PD.ne_str]
          simp
      rw [e, pure_bind]
      refine ih _ ?_ ?_
      · unfold lstep
        split
        · simp; omega
        · omega
      · unfold lstep
        split
        · simp; omega
        · omega
  rw [key fs (found, w) hf hw]
  have := lstep_fold p found fs [] w nd fun _ _ _ => by simp
  rw [List.append_nil] at this
  rw [this]
theorem leads_while (fs : Fs) (nd : fs.Nodup) (hl : fs.length ≤ 1000) {a : Str} {U : List Str} (hU : ∀ f ∈ fs, f.2 ∈ U) (hUl : U.length ≤ 1000) : ∀ (n : Nat) (w found : List Str), SeInv fs a U w found → U.length + w.length < n + found.length →
    ∃ found', (∀ c, c ∈ found' ↔ Reach fs a c) ∧ whileD (S := List D × List D) (fun s3 => b1 asB (b2 qNe (pure (false, s3.1)) (aNil D dLst))) (fun s3 => mPop s3.1 fun v4 => seqF (T := List D × List D) ((b1 items (pure (.tup (prsD fs)))) >>= fun ds => forD (S := List D × List D) (fun s5 d => on2 (fun c6 => mIf (mAnd (b1 asB (b2 dEq (pure c6.1) (pure v4))) (b1 asB (b2 qNotIn (pure c6.2) (pure (false, s5.1))))) (mApp (pure c6.2) s5.1 fun v7 => mApp (pure c6.2) s5.2 fun v8 => pure (.nx (s5.1 ++ [v7], s5.2 ++ [v8]))) (pure (.nx (s5.1, s5.2)))) d) ds (s3.2, s3.1.dropLast)) fun s5 => pure (.nx (s5.2, s5.1))) n (strsD w, strsD found) = pure (.nx ([], strsD found'))
  | 0, w, found, i, h => absurd (nodup_le i.nd i.sub) (by omega)
  | n + 1, w, found, i, h => by
    unfold whileD
    have hwl := i.wlen
    have hfl := nodup_le i.nd i.sub
    cases e : w.getLast? with
    | none =>
      have hw : w = [] := by simpa using e
      subst hw
      refine ⟨found, i.fin, ?_⟩
      simp only [runS, seqF, b1, b2, aCons, aNil, mIf, mAnd, mOr, mNot, vAnd, vOr, vNot, mRet, mLst, mTwo, mSl, on1, lcB, e_on2, e_on4, pure_bind, bind_assoc, asB, asI, e_isO, e_calm, e_both, e_cB1, e_cB2, e_cB3, e_cB4, e_endr, e_endn, if_true, if_false, Bool.false_eq_true, Bool.not_true, Bool.not_false, it_lst, it_tup, d_lenl, d_lent, List.length_map, ix_t0, ix_t1, ix_l0, ix_l1, c_tupl, c_tupt, asQ, qList, qLen, d_addi, d_sub, d_gt, d_lt, d_le, d_ge, PD.eq_int, PD.ne_int, PD.eq_str, PD.ne_str, d_lst [] (by show 0 ≤ 16777216; decide), qne_nil, List.isEmpty_nil]
      rfl
    | some p =>
      have hne : w ≠ [] := fun z => by rw [z] at e; cases e
      have hl2 : w.dropLast.length + 1 = w.length := by
        rw [List.length_dropLast]
        have := List.length_pos_iff.mpr hne
        omega
      have hpop : (strsD w)[(strsD w).length - 1]? = some (.str p) := by
        rw [List.getLast?_eq_getElem?] at e
        rw [List.length_map, List.getElem?_map, e]
        rfl
      have hsl := succs_len fs p found
      have hsn := nodup_le (i.next nd hU e).nd (i.next nd hU e).sub
      have hse : w.isEmpty = false := by cases w with
        | nil => exact absurd rfl hne
        | cons _ _ => rfl
      have hdl : (strsD w).dropLast = strsD w.dropLast := List.map_dropLast.symm
      obtain ⟨found', h1, h2⟩ := leads_while fs nd hl hU hUl n _ _ (i.next nd hU e) (by rw [List.length_append, List.length_append]; omega)
      refine ⟨found', h1, ?_⟩
      have hf := leads_for fs p found w.dropLast nd (by omega) (by omega)
      simp only [b1, b2, aNil, pure_bind, d_lst [] (by show 0 ≤ 16777216; decide), qne_nil, hse, Bool.not_false, asB, if_true, mPop, hpop, it_tup]
      rw [hdl]
      simp only [b1, b2, pure_bind] at hf
      rw [hf]
      simp only [seqF, pure_bind]
      simp only [b1, b2, aNil, pure_bind, it_tup, seqF] at h2
      exact h2
open Classical in
noncomputable def reachB (fs : Fs) (a c : Str) : Bool := decide (Reach fs a c)
theorem reachB_iff {fs : Fs} {a c : Str} : reachB fs a c = true ↔ Reach fs a c := by
  unfold reachB
  simp
theorem contains_reach {fs : Fs} {a c : Str} {found : List Str} (h : ∀ c, c ∈ found ↔ Reach fs a c) : found.contains c = reachB fs a c := by
  rw [Bool.eq_iff_iff, reachB_iff, ← h c]
  simp
theorem leads_eq (fs : Fs) (nd : fs.Nodup) (hl : fs.length ≤ 190) (a c : Str) : m_leads [.tup (prsD fs), .str a, .str c] = pure (.bl (reachB fs a c)) := by
  obtain ⟨found, h1, h2⟩ := leads_while fs nd (by omega) (a := a) (U := a :: fs.map (·.2)) (fun f hf => List.mem_cons_of_mem _ (List.mem_map.mpr ⟨f, hf, rfl⟩)) (by rw [List.length_cons, List.length_map]; omega) 200 [a] [a] (SeInv.start (List.mem_cons_self ..)) (by simp; omega)
  unfold m_leads
  dsimp only
  rw [show (aCons (pure (D.str a)) aNil) (List D) nLst = pure [D.str a] from n_lst [D.str a] (by show 1 ≤ 16777216; decide), e_two, pure_bind]
  rw [show whileD (S := List D × List D) _ _ 200 ([D.str a], [D.str a]) = pure (.nx ([], strsD found)) from h2]
  simp only [runS, seqF, b1, b2, aCons, aNil, mIf, mAnd, mOr, mNot, vAnd, vOr, vNot, mRet, mLst, mTwo, mSl, on1, lcB, e_on2, e_on4, pure_bind, bind_assoc, asB, asI, e_isO, e_calm, e_both, e_cB1, e_cB2, e_cB3, e_cB4, e_endr, e_endn, if_true, if_false, Bool.false_eq_true, Bool.not_true, Bool.not_false, it_lst, it_tup, d_lenl, d_lent, List.length_map, ix_t0, ix_t1, ix_l0, ix_l1, c_tupl, c_tupt, asQ, qList, qLen, d_addi, d_sub, d_gt, d_lt, d_le, d_ge, PD.eq_int, PD.ne_int, PD.eq_str, PD.ne_str, qin]
  rw [contains_reach h1]
theorem dat_prs (xs : Fs) : datAll (prsD xs) = true := by
  induction xs with
  | nil => rfl
  | cons x xs ih => exact ih
theorem mix_prs (f : Str × Str) (xs : Fs) : ((pyAll (prsD xs)).all fun y => SeqAt.mixOk y (prD f).py) = true := by
  induction xs with
  | nil => rfl
  | cons x xs ih =>
    show (SeqAt.mixOk (prD x).py (prD f).py && (pyAll (prsD xs)).all fun y => SeqAt.mixOk y (prD f).py) = true
    rw [ih]
    rfl
theorem okIn_prs (f : Str × Str) (xs : Fs) : okIn (prD f) (prsD xs) = true := by
  unfold okIn
  rw [dat_prs, mix_prs]
  rfl
theorem isIn_prs (f : Str × Str) (xs : Fs) : D.isIn (prD f) (prsD xs) = xs.contains f := by
  unfold D.isIn
  rw [List.any_map]
  induction xs with
  | nil => rfl
  | cons x xs ih =>
    rw [List.any_cons, ih, List.contains_cons]
    congr 1
    show ((x.1 == f.1) && ((x.2 == f.2) && true)) = (f == x)
    rw [Bool.and_true, Bool.eq_iff_iff]
    simp only [Bool.and_eq_true, beq_iff_eq]
    exact ⟨fun h => Prod.ext h.1.symm h.2.symm, fun h => ⟨by rw [h], by rw [h]⟩⟩
theorem in_prs (neg : Bool) (f : Str × Str) (xs : Fs) : inSeq neg (prD f) (prsD xs) = pure (.bl (neg? neg (xs.contains f))) := by
  unfold inSeq
  rw [if_pos (okIn_prs f xs), isIn_prs]
theorem let_eq (fs : Fs) (nd : fs.Nodup) (hl : fs.length ≤ 190) (f : Str × Str) : m_is_let [.tup (prsD fs), prD f] = pure (.bl (!fs.contains f && !reachB fs f.2 f.1)) := by
  unfold m_is_let
  have e : dNotIn (prD f) (.tup (prsD fs)) = pure (.bl (!fs.contains f)) := in_prs true f fs
  simp only [runS, seqF, b1, b2, aCons, aNil, mIf, mAnd, mOr, mNot, vAnd, vOr, vNot, mRet, mLst, mTwo, mSl, on1, lcB, e_on2, e_on4, pure_bind, bind_assoc, asB, asI, e_isO, e_calm, e_both, e_cB1, e_cB2, e_cB3, e_cB4, e_endr, e_endn, if_true, if_false, Bool.false_eq_true, Bool.not_true, Bool.not_false, it_lst, it_tup, d_lenl, d_lent, List.length_map, ix_t0, ix_t1, ix_l0, ix_l1, c_tupl, c_tupt, asQ, qList, qLen, d_addi, d_sub, d_gt, d_lt, d_le, d_ge, PD.eq_int, PD.ne_int, PD.eq_str, PD.ne_str, e, leads_eq fs nd hl]
  cases fs.contains f <;> rfl
structure Bd where
  text : Str
  sizes : List Int
  whole : List Str
  sets : List Str
def Bd.d (b : Bd) : D := .obj "Board" (.tup [.tup (b.sizes.map .int), .tup (strsD b.sets)])
def apartN (s t : Str) : Nat := ((s.cps.toList.zip t.cps.toList).filter fun p => p.1 != p.2).length
def adjS (s t : Str) : Bool := apartN s t == 1
def Bd.near (b : Bd) (s : Str) : List Str := b.sets.filter fun t => adjS t s
structure BdOk (b : Bd) : Prop where
  told : m_board_told [.str b.text] = pure b.d
  whole : m_Board_whole [b.d] = pure (.tup (strsD b.whole))
  inside : m_settings_in [.tup (strsD b.whole)] = pure (.lst (strsD b.sets))
  beside : ∀ s ∈ b.sets, m_beside_part [.tup (strsD b.whole), .str s] = pure (.lst (strsD (b.near s)))
  nei : ∀ s ∈ b.sets, ∀ t ∈ b.sets, m_are_neighbours [.str s, .str t] = pure (.bl (adjS s t))
  nodup : b.sets.Nodup
  small : b.sets.length ≤ 48
  pos : 0 < b.sets.length
  signs : ∀ s ∈ b.sets, 10 ∉ s.cps.toList ∧ 32 ∉ s.cps.toList ∧ s.length ≤ 5
  tsigns : 10 ∉ b.text.cps.toList ∧ 32 ∉ b.text.cps.toList ∧ b.text.length ≤ 5
  sym : ∀ s ∈ b.sets, ∀ t ∈ b.sets, adjS s t = adjS t s
  irr : ∀ s ∈ b.sets, adjS s s = false
structure FsOk (b : Bd) (fs : Fs) : Prop where
  mem : ∀ f ∈ fs, f.1 ∈ b.sets ∧ f.2 ∈ b.sets ∧ adjS f.1 f.2 = true
  nd : fs.Nodup
  few : fs.length ≤ 190
def notesD (b : Bd) (fs : Fs) : D := .obj "Notes" (.tup [b.d, .tup (prsD fs)])
theorem settings_eq (b : Bd) : m_Board_settings [b.d] = pure (.tup (strsD b.sets)) := by
  unfold m_Board_settings Bd.d
  simp only [runS, seqF, b1, b2, aCons, aNil, mIf, mAnd, mOr, mNot, vAnd, vOr, vNot, mRet, mLst, mTwo, mSl, on1, lcB, e_on2, e_on4, pure_bind, bind_assoc, asB, asI, e_isO, e_calm, e_both, e_cB1, e_cB2, e_cB3, e_cB4, e_endr, e_endn, if_true, if_false, Bool.false_eq_true, Bool.not_true, Bool.not_false, it_lst, it_tup, d_lenl, d_lent, List.length_map, ix_t0, ix_t1, ix_l0, ix_l1, c_tupl, c_tupt, asQ, qList, qLen, d_addi, d_sub, d_gt, d_lt, d_le, d_ge, PD.eq_int, PD.ne_int, PD.eq_str, PD.ne_str]
theorem nboard_eq (b : Bd) (fs : Fs) : m_Notes_board [notesD b fs] = pure b.d := by
  unfold m_Notes_board notesD
  simp only [runS, seqF, b1, b2, aCons, aNil, mIf, mAnd, mOr, mNot, vAnd, vOr, vNot, mRet, mLst, mTwo, mSl, on1, lcB, e_on2, e_on4, pure_bind, bind_assoc, asB, asI, e_isO, e_calm, e_both, e_cB1, e_cB2, e_cB3, e_cB4, e_endr, e_endn, if_true, if_false, Bool.false_eq_true, Bool.not_true, Bool.not_false, it_lst, it_tup, d_lenl, d_lent, List.length_map, ix_t0, ix_t1, ix_l0, ix_l1, c_tupl, c_tupt, asQ, qList, qLen, d_addi, d_sub, d_gt, d_lt, d_le, d_ge, PD.eq_int, PD.ne_int, PD.eq_str, PD.ne_str]
theorem nfacts_eq (b : Bd) (fs : Fs) : m_Notes_facts [notesD b fs] = pure (.tup (prsD fs)) := by
  unfold m_Notes_facts notesD
  simp only [runS, seqF, b1, b2, aCons, aNil, mIf, mAnd, mOr, mNot, vAnd, vOr, vNot, mRet, mLst, mTwo, mSl, on1, lcB, e_on2, e_on4, pure_bind, bind_assoc, asB, asI, e_isO, e_calm, e_both, e_cB1, e_cB2, e_cB3, e_cB4, e_endr, e_endn, if_true, if_false, Bool.false_eq_true, Bool.not_true, Bool.not_false, it_lst, it_tup, d_lenl, d_lent, List.length_map, ix_t0, ix_t1, ix_l0, ix_l1, c_tupl, c_tupt, asQ, qList, qLen, d_addi, d_sub, d_gt, d_lt, d_le, d_ge, PD.eq_int, PD.ne_int, PD.eq_str, PD.ne_str]
theorem contains_eq (b : Bd) (s : Str) : m_Board_contains [b.d, .str s] = pure (.bl (b.sets.contains s)) := by
  unfold m_Board_contains Bd.d
  have e : isiD (tblT "str" []) (.str s) = pure (.bl true) := rfl
  simp only [runS, seqF, b1, b2, aCons, aNil, mIf, mAnd, mOr, mNot, vAnd, vOr, vNot, mRet, mLst, mTwo, mSl, on1, lcB, e_on2, e_on4, pure_bind, bind_assoc, asB, asI, e_isO, e_calm, e_both, e_cB1, e_cB2, e_cB3, e_cB4, e_endr, e_endn, if_true, if_false, Bool.false_eq_true, Bool.not_true, Bool.not_false, it_lst, it_tup, d_lenl, d_lent, List.length_map, ix_t0, ix_t1, ix_l0, ix_l1, c_tupl, c_tupt, asQ, qList, qLen, d_addi, d_sub, d_gt, d_lt, d_le, d_ge, PD.eq_int, PD.ne_int, PD.eq_str, PD.ne_str, e, in_tup]
def isStr : D → Bool
  | .str _ => true
  | _ => false
theorem contains_no (b : Bd) {x : D} (hd : x.dat = true) (h : isStr x = false) : m_Board_contains [b.d, x] = pure (.bl false) := by
  unfold m_Board_contains Bd.d
  have e : isiD (tblT "str" []) x = pure (.bl false) := by cases x <;> first | cases hd; done | cases h; done | rfl
  simp only [runS, seqF, b1, b2, aCons, aNil, mIf, mAnd, mOr, mNot, vAnd, vOr, vNot, mRet, mLst, mTwo, mSl, on1, lcB, e_on2, e_on4, pure_bind, bind_assoc, asB, asI, e_isO, e_calm, e_both, e_cB1, e_cB2, e_cB3, e_cB4, e_endr, e_endn, if_true, if_false, Bool.false_eq_true, Bool.not_true, Bool.not_false, it_lst, it_tup, d_lenl, d_lent, List.length_map, ix_t0, ix_t1, ix_l0, ix_l1, c_tupl, c_tupt, asQ, qList, qLen, d_addi, d_sub, d_gt, d_lt, d_le, d_ge, PD.eq_int, PD.ne_int, PD.eq_str, PD.ne_str, e]
theorem oin_str (b : Bd) (neg : Bool) (s : Str) : oIn "Board" neg m_Board_contains (fun ds _ => ds) (.str s) b.d = pure (.bl (neg? neg (b.sets.contains s))) := by
  unfold oIn
  rw [show b.d = .obj "Board" (.tup [.tup (b.sizes.map .int), .tup (strsD b.sets)]) from rfl, e_isO]
  rw [show (.obj "Board" (.tup [.tup (b.sizes.map .int), .tup (strsD b.sets)]) : D) = b.d from rfl, contains_eq]
  rfl
theorem fact_eq {b : Bd} (B : BdOk b) {f : Str × Str} (h1 : f.1 ∈ b.sets) (h2 : f.2 ∈ b.sets) : m_is_fact [b.d, prD f] = pure (.bl (adjS f.1 f.2)) := by
  unfold m_is_fact
  have e : isiD (tblT "tuple" []) (prD f) = pure (.bl true) := rfl
  have c1 : b.sets.contains f.1 = true := by simpa using h1
  have c2 : b.sets.contains f.2 = true := by simpa using h2
  simp only [runS, seqF, b1, b2, aCons, aNil, mIf, mAnd, mOr, mNot, vAnd, vOr, vNot, mRet, mLst, mTwo, mSl, on1, lcB, e_on2, e_on4, pure_bind, bind_assoc, asB, asI, e_isO, e_calm, e_both, e_cB1, e_cB2, e_cB3, e_cB4, e_endr, e_endn, if_true, if_false, Bool.false_eq_true, Bool.not_true, Bool.not_false, it_lst, it_tup, d_lenl, d_lent, List.length_map, ix_t0, ix_t1, ix_l0, ix_l1, c_tupl, c_tupt, asQ, qList, qLen, d_addi, d_sub, d_gt, d_lt, d_le, d_ge, PD.eq_int, PD.ne_int, PD.eq_str, PD.ne_str, e, oin_str, neg?, c1, c2, B.nei f.1 h1 f.2 h2, e_len2]
theorem cut_hiN (xs : List D) (i : Nat) (h : i ≤ xs.length) : cutL xs none (some (i : Int)) = xs.take i := by
  unfold cutL
  rw [HT.sIx_none, HT.sIx_nat, Nat.min_eq_left h, List.drop_zero, Nat.sub_zero]
theorem for_all {b : Unit → D → M (Fl Unit)} {α : Type} {f : α → D} : ∀ (xs : List α), (∀ x ∈ xs, b () (f x) = pure (.nx ())) → forD b (xs.map f) () = pure (.nx ())
  | [], _ => rfl
  | x :: xs, h => by
    rw [List.map_cons, forD_nx, h x (List.mem_cons_self ..), pure_bind]
    exact for_all xs fun y hy => h y (List.mem_cons_of_mem _ hy)
theorem check_facts_ok {b : Bd} (B : BdOk b) {fs : Fs} (F : FsOk b fs) (ac : ∀ i (h : i < fs.length), ¬ Reach (fs.take i) fs[i].2 fs[i].1) : m_check_facts [b.d, .tup (prsD fs)] = pure .non := by
  unfold m_check_facts
  have e : isiD (tblT "tuple" []) (.tup (prsD fs)) = pure (.bl true) := rfl
  have hf := F.few
  have ef := for_all (b := fun _ d => on1 (fun c2 => mIf (mOr (mNot (b1 asB ((aCons (pure b.d) (aCons (b2 dIxA (pure (D.tup (prsD fs))) (pure c2)) aNil)) D (cB 2 m_is_fact fun ds _ => ds)))) (mNot (b1 asB ((aCons (mSl (pure (D.tup (prsD fs))) (pure none) (b1 asI (pure c2))) (aCons (b2 dIxA (pure (D.tup (prsD fs))) (pure c2)) aNil)) D (cB 2 m_is_let fun ds _ => ds))))) ((pure c2) >>= fun d => raise ⟨"InvalidFacts", some ("index", d)⟩) (pure (.nx ()))) d) (f := fun (i : Nat) => D.int (i : Nat)) (List.range fs.length) (fun i hi => by
    have hi := List.mem_range.mp hi
    have g : (prsD fs)[i]? = some (prD fs[i]) := by rw [List.getElem?_map, List.getElem?_eq_getElem hi]; rfl
    have hm := F.mem fs[i] (List.getElem_mem hi)
    have ndt : (fs.take i).Nodup := F.nd.sublist (List.take_sublist i fs)
    have l1 : (!(fs.take i).contains fs[i]) = true := by
      simp only [Bool.not_eq_true', List.contains_eq_mem, decide_eq_false_iff_not]
      intro hm
      obtain ⟨j, hj, ej⟩ := List.mem_iff_getElem.mp hm
      rw [List.length_take] at hj
      rw [List.getElem_take] at ej
      exact List.pairwise_iff_getElem.mp F.nd j i (by omega) hi (by omega) ej
    have l2 : (!reachB (fs.take i) fs[i].2 fs[i].1) = true := by
      rw [Bool.not_eq_true', ← Bool.not_eq_true, reachB_iff]
      exact ac i hi
    have l3 := let_eq (fs.take i) ndt (by rw [List.length_take]; omega) fs[i]
    rw [l1, l2, Bool.and_self] at l3
    have l4 := fact_eq B hm.1 hm.2.1
    rw [hm.2.2] at l4
    have cut : cutL (prsD fs) none (some (i : Int)) = prsD (fs.take i) := by rw [cut_hiN _ _ (by rw [List.length_map]; omega)]; exact List.map_take.symm
    simp only [runS, seqF, b1, b2, aCons, aNil, mIf, mAnd, mOr, mNot, vAnd, vOr, vNot, mRet, mLst, mTwo, mSl, on1, lcB, e_on2, e_on4, pure_bind, bind_assoc, asB, asI, e_isO, e_calm, e_both, e_cB1, e_cB2, e_cB3, e_cB4, e_endr, e_endn, if_true, if_false, Bool.false_eq_true, Bool.not_true, Bool.not_false, it_lst, it_tup, d_lenl, d_lent, List.length_map, ix_t0, ix_t1, ix_l0, ix_l1, c_tupl, c_tupt, asQ, qList, qLen, d_addi, d_sub, d_gt, d_lt, d_le, d_ge, PD.eq_int, PD.ne_int, PD.eq_str, PD.ne_str, ix_tupN g, l4, dSl, cut, l3])
  simp only [runS, seqF, b1, b2, aCons, aNil, mIf, mAnd, mOr, mNot, vAnd, vOr, vNot, mRet, mLst, mTwo, mSl, on1, lcB, e_on2, e_on4, pure_bind, bind_assoc, asB, asI, e_isO, e_calm, e_both, e_cB1, e_cB2, e_cB3, e_cB4, e_endr, e_endn, if_true, if_false, Bool.false_eq_true, Bool.not_true, Bool.not_false, it_lst, it_tup, d_lenl, d_lent, List.length_map, ix_t0, ix_t1, ix_l0, ix_l1, c_tupl, c_tupt, asQ, qList, qLen, d_addi, d_sub, d_gt, d_lt, d_le, d_ge, PD.eq_int, PD.ne_int, PD.eq_str, PD.ne_str, e, rngN fs.length (by omega)]
  simp only [runS, seqF, b1, b2, aCons, aNil, mIf, mAnd, mOr, mNot, vAnd, vOr, vNot, mRet, mLst, mTwo, mSl, on1, lcB, e_on2, e_on4, pure_bind, bind_assoc, asB, asI, e_isO, e_calm, e_both, e_cB1, e_cB2, e_cB3, e_cB4, e_endr, e_endn, if_true, if_false, Bool.false_eq_true, Bool.not_true, Bool.not_false, it_lst, it_tup, d_lenl, d_lent, List.length_map, ix_t0, ix_t1, ix_l0, ix_l1, c_tupl, c_tupt, asQ, qList, qLen, d_addi, d_sub, d_gt, d_lt, d_le, d_ge, PD.eq_int, PD.ne_int, PD.eq_str, PD.ne_str] at ef
  rw [ef]
  simp only [runS, seqF, b1, b2, aCons, aNil, mIf, mAnd, mOr, mNot, vAnd, vOr, vNot, mRet, mLst, mTwo, mSl, on1, lcB, e_on2, e_on4, pure_bind, bind_assoc, asB, asI, e_isO, e_calm, e_both, e_cB1, e_cB2, e_cB3, e_cB4, e_endr, e_endn, if_true, if_false, Bool.false_eq_true, Bool.not_true, Bool.not_false, it_lst, it_tup, d_lenl, d_lent, List.length_map, ix_t0, ix_t1, ix_l0, ix_l1, c_tupl, c_tupt, asQ, qList, qLen, d_addi, d_sub, d_gt, d_lt, d_le, d_ge, PD.eq_int, PD.ne_int, PD.eq_str, PD.ne_str]
end G
namespace G
open PySem PySem.Spec L2 PD
open PyProof.Rows hiding St
theorem k_split (l sep : Str) (h : (sep.length == 0) = false) (hl : l.length ≤ 1000000) : kSplit (pure (.str sep)) (.str l) = pure (strsD (Txt.split l sep)) := if_pos ⟨h, by show l.length + 2 ≤ 16777216; omega⟩
theorem k_join (a : Str) (xs : List Str) (h : (xs.map (·.length)).sum + xs.length * a.length ≤ 1000000) : kJoin (pure (.lst (strsD xs))) (.str a) = pure (.str (Txt.join a xs)) := by
  show (match strsOf (strsD xs) with
    | some ys => if (ys.map (·.length)).sum + ys.length * a.length ≤ 16777216 then pure (.str (Txt.join a ys)) else stuck
    | none => stuck : M D) = _
  rw [strsOf_map]
  exact if_pos (by omega)
theorem sp_len : (((" " : Str).length) == 0) = false := by decide +kernel
theorem nl_len : (((" \n" : Str).length) == 0) = false := by decide +kernel
theorem nl_len1 : (((" \n" : Str).length) == 0) = false := by decide +kernel
theorem nl1 : ((("\n" : Str).length) == 0) = false := by decide +kernel
theorem cut_one (x : D) (xs : List D) : cutL (x :: xs) (some 1) none = xs := by
  unfold cutL
  rw [HT.sIx_none]
  have e : HT.sIx (x :: xs).length 0 (some 1) = min 1 (x :: xs).length := HT.sIx_nat _ 0 1
  rw [e, Nat.min_eq_left (by simp)]
  exact List.take_of_length_le (by simp)
theorem sl_l1 (x : D) (xs : List D) : dSl (some 1) none (.lst (x :: xs)) = pure (.lst xs) := by
  show (pure (.lst (cutL (x :: xs) (some 1) none)) : M D) = _
  rw [cut_one]
def wordD (f : Str × Str) : D := .lst [.str f.1, .str "<", .str f.2]
def hwordD (t : Str) : D := .lst [.str "board", .str t]
theorem try_pure {S : Type} (c : Str) (o : List Str) (a : Fl S) (h : M (Fl S)) : tryM c o (pure a) h = pure a := rfl
theorem FsOk.short {b : Bd} (B : BdOk b) {fs : Fs} (F : FsOk b fs) : FsShort fs := fun f hf => by
  have h := F.mem f hf
  exact ⟨B.signs _ h.1, B.signs _ h.2.1⟩
theorem notes_init_ok {b : Bd} (B : BdOk b) {fs : Fs} (F : FsOk b fs) (ac : ∀ i (h : i < fs.length), ¬ Reach (fs.take i) fs[i].2 fs[i].1) : cI "Notes" 2 m_Notes_init (fun ds _ => ds) [b.d, .tup (prsD fs)] = pure (notesD b fs) := by
  have e0 : isiD tb_Board b.d = pure (.bl true) := by
    unfold Bd.d
    kernel_rfl
  have e1 : m_check_board [b.d] = pure .non := by
    unfold m_check_board
    simp only [runS, seqF, b1, b2, aCons, aNil, mIf, mAnd, mOr, mNot, vAnd, vOr, vNot, mRet, mLst, mTwo, mSl, on1, lcB, e_on2, e_on4, pure_bind, bind_assoc, asB, asI, e_isO, e_calm, e_both, e_cB1, e_cB2, e_cB3, e_cB4, e_endr, e_endn, if_true, if_false, Bool.false_eq_true, Bool.not_true, Bool.not_false, it_lst, it_tup, d_lenl, d_lent, List.length_map, ix_t0, ix_t1, ix_l0, ix_l1, c_tupl, c_tupt, asQ, qList, qLen, d_addi, d_sub, d_gt, d_lt, d_le, d_ge, PD.eq_int, PD.ne_int, PD.eq_str, PD.ne_str, e0]
  rw [e_cI2]
  unfold m_Notes_init
  simp only [runS, seqF, b1, b2, aCons, aNil, mIf, mAnd, mOr, mNot, vAnd, vOr, vNot, mRet, mLst, mTwo, mSl, on1, lcB, e_on2, e_on4, pure_bind, bind_assoc, asB, asI, e_isO, e_calm, e_both, e_cB1, e_cB2, e_cB3, e_cB4, e_endr, e_endn, if_true, if_false, Bool.false_eq_true, Bool.not_true, Bool.not_false, it_lst, it_tup, d_lenl, d_lent, List.length_map, ix_t0, ix_t1, ix_l0, ix_l1, c_tupl, c_tupt, asQ, qList, qLen, d_addi, d_sub, d_gt, d_lt, d_le, d_ge, PD.eq_int, PD.ne_int, PD.eq_str, PD.ne_str, e1, check_facts_ok B F ac, d_tup [b.d, .tup (prsD fs)] (by show 2 ≤ 16777216; decide)]
  rfl
theorem words_eq {b : Bd} (B : BdOk b) {fs : Fs} (F : FsOk b fs) : lcD (fun d => on1 (lcB (fun c2 => pure true) (fun c2 => mLst ((pure c2) >>= kSplit (pure (D.str (" " : Str)))))) d) (strsD (linesS b.text fs)) [] = pure (hwordD b.text :: fs.map wordD) := by
  have hs := F.short B
  have ht := B.tsigns
  have hf := F.few
  rw [lc_map (h := fun l => .lst (strsD (Txt.split l (" " : Str)))) (linesS b.text fs) (fun l hl => ?_) (by unfold linesS; rw [List.length_cons, List.length_map]; omega)]
  · unfold linesS
    rw [List.map_cons, split_head b.text ht, List.map_map]
    congr 2
    refine List.map_congr_left fun f hf => ?_
    show D.lst (strsD (Txt.split (lineS f) (" " : Str))) = _
    rw [split_line f (hs f hf).1 (hs f hf).2]
    rfl
  · have hlen : l.length ≤ 1000000 := by
      rcases List.mem_cons.mp hl with e | h
      · rw [e]; have := len_head_S b.text ht; omega
      · obtain ⟨f, hm, rfl⟩ := List.mem_map.mp h
        have := len_line_S f (hs f hm).1 (hs f hm).2
        omega
    simp only [runS, seqF, b1, b2, aCons, aNil, mIf, mAnd, mOr, mNot, vAnd, vOr, vNot, mRet, mLst, mTwo, mSl, on1, lcB, e_on2, e_on4, pure_bind, bind_assoc, asB, asI, e_isO, e_calm, e_both, e_cB1, e_cB2, e_cB3, e_cB4, e_endr, e_endn, if_true, if_false, Bool.false_eq_true, Bool.not_true, Bool.not_false, it_lst, it_tup, d_lenl, d_lent, List.length_map, ix_t0, ix_t1, ix_l0, ix_l1, c_tupl, c_tupt, asQ, qList, qLen, d_addi, d_sub, d_gt, d_lt, d_le, d_ge, PD.eq_int, PD.ne_int, PD.eq_str, PD.ne_str, k_split l (" " : Str) sp_len hlen]
theorem notes_told_eq {b : Bd} (B : BdOk b) {fs : Fs} (F : FsOk b fs) (ac : ∀ i (h : i < fs.length), ¬ Reach (fs.take i) fs[i].2 fs[i].1) : m_notes_told [.str (sheetS b.text fs)] = pure (notesD b fs) := by
  have hs := F.short B
  have ht := B.tsigns
  have hf := F.few
  have e0 : isiD (tblT "str" []) (.str (sheetS b.text fs)) = pure (.bl true) := rfl
  have e1 := k_split (sheetS b.text fs) ("\n" : Str) nl1 (by have := len_sheet b.text fs ht hs; omega)
  rw [split_sheet b.text fs ht hs] at e1
  have e2 := words_eq B F
  have e3 : (.str b.text : D) = .str b.text := rfl
  have e4 : lcD (fun d => on1 (lcB (fun c5 => pure true) (fun c5 => vAnd (b2 dEq (aCons (pure c5) aNil D dLen) (pure (D.int 3))) (b2 dEq (b2 dIxA (pure c5) (pure (D.int 1))) (pure (D.str ("<" : Str)))))) d) (fs.map wordD) [] = pure (fs.map fun _ => D.bl true) :=
    lc_map (h := fun _ => D.bl true) fs (fun f _ => by
      unfold wordD
      simp only [runS, seqF, b1, b2, aCons, aNil, mIf, mAnd, mOr, mNot, vAnd, vOr, vNot, mRet, mLst, mTwo, mSl, on1, lcB, e_on2, e_on4, pure_bind, bind_assoc, asB, asI, e_isO, e_calm, e_both, e_cB1, e_cB2, e_cB3, e_cB4, e_endr, e_endn, if_true, if_false, Bool.false_eq_true, Bool.not_true, Bool.not_false, it_lst, it_tup, d_lenl, d_lent, List.length_map, ix_t0, ix_t1, ix_l0, ix_l1, c_tupl, c_tupt, asQ, qList, qLen, d_addi, d_sub, d_gt, d_lt, d_le, d_ge, PD.eq_int, PD.ne_int, PD.eq_str, PD.ne_str, e_len3]
      rfl) (by omega)
  have e4b : fAll [.lst (fs.map fun _ => D.bl true)] = pure (.bl true) := by
    rw [f_all' fs fun _ => true, List.all_eq_true.mpr fun _ _ => rfl]
  have e5 : lcD (fun d => on1 (lcB (fun c6 => pure true) (fun c6 => (aCons (b2 dIxA (pure c6) (pure (D.int 0))) (aCons (b2 dIxA (pure c6) (pure (D.int 2))) aNil)) D dTup)) d) (fs.map wordD) [] = pure (prsD fs) :=
    lc_map (h := fun f => prD f) fs (fun f _ => by
      unfold wordD
      have e : dIxA (.lst [.str f.1, .str "<", .str f.2]) (.int 2) = pure (.str f.2) := ix_lstN (i := 2) rfl
      simp only [runS, seqF, b1, b2, aCons, aNil, mIf, mAnd, mOr, mNot, vAnd, vOr, vNot, mRet, mLst, mTwo, mSl, on1, lcB, e_on2, e_on4, pure_bind, bind_assoc, asB, asI, e_isO, e_calm, e_both, e_cB1, e_cB2, e_cB3, e_cB4, e_endr, e_endn, if_true, if_false, Bool.false_eq_true, Bool.not_true, Bool.not_false, it_lst, it_tup, d_lenl, d_lent, List.length_map, ix_t0, ix_t1, ix_l0, ix_l1, c_tupl, c_tupt, asQ, qList, qLen, d_addi, d_sub, d_gt, d_lt, d_le, d_ge, PD.eq_int, PD.ne_int, PD.eq_str, PD.ne_str, e, d_tup [.str f.1, .str f.2] (by show 2 ≤ 16777216; decide)]) (by omega)
  have e6 : m_board_told [.str b.text] = pure b.d := B.told
  have e7 := notes_init_ok B F ac
  have e8 : dIsN b.d = pure (.bl false) := rfl
  have e9 : dEq (.str ("board" : Str)) (.str ("board" : Str)) = pure (.bl true) := by rw [PD.eq_str]; rfl
  have e10 : (("board" : Str) == ("board" : Str)) = true := beq_self_eq_true _
  unfold m_notes_told
  simp only [runS, seqF, b1, b2, aCons, aNil, mIf, mAnd, mOr, mNot, vAnd, vOr, vNot, mRet, mLst, mTwo, mSl, on1, lcB, e_on2, e_on4, pure_bind, bind_assoc, asB, asI, e_isO, e_calm, e_both, e_cB1, e_cB2, e_cB3, e_cB4, e_endr, e_endn, if_true, if_false, Bool.false_eq_true, Bool.not_true, Bool.not_false, it_lst, it_tup, d_lenl, d_lent, List.length_map, ix_t0, ix_t1, ix_l0, ix_l1, c_tupl, c_tupt, asQ, qList, qLen, d_addi, d_sub, d_gt, d_lt, d_le, d_ge, PD.eq_int, PD.ne_int, PD.eq_str, PD.ne_str, e0, e1]
  simp only [runS, seqF, b1, b2, aCons, aNil, mIf, mAnd, mOr, mNot, vAnd, vOr, vNot, mRet, mLst, mTwo, mSl, on1, lcB, e_on2, e_on4, pure_bind, bind_assoc, asB, asI, e_isO, e_calm, e_both, e_cB1, e_cB2, e_cB3, e_cB4, e_endr, e_endn, if_true, if_false, Bool.false_eq_true, Bool.not_true, Bool.not_false, it_lst, it_tup, d_lenl, d_lent, List.length_map, ix_t0, ix_t1, ix_l0, ix_l1, c_tupl, c_tupt, asQ, qList, qLen, d_addi, d_sub, d_gt, d_lt, d_le, d_ge, PD.eq_int, PD.ne_int, PD.eq_str, PD.ne_str] at e2 e4 e5
  rw [e2]
  unfold hwordD
  simp only [runS, seqF, b1, b2, aCons, aNil, mIf, mAnd, mOr, mNot, vAnd, vOr, vNot, mRet, mLst, mTwo, mSl, on1, lcB, e_on2, e_on4, pure_bind, bind_assoc, asB, asI, e_isO, e_calm, e_both, e_cB1, e_cB2, e_cB3, e_cB4, e_endr, e_endn, if_true, if_false, Bool.false_eq_true, Bool.not_true, Bool.not_false, it_lst, it_tup, d_lenl, d_lent, List.length_map, ix_t0, ix_t1, ix_l0, ix_l1, c_tupl, c_tupt, asQ, qList, qLen, d_addi, d_sub, d_gt, d_lt, d_le, d_ge, PD.eq_int, PD.ne_int, PD.eq_str, PD.ne_str, e_len2, e6, e10, e8, sl_l1]
  rw [e4, pure_bind, e4b]
  simp only [runS, seqF, b1, b2, aCons, aNil, mIf, mAnd, mOr, mNot, vAnd, vOr, vNot, mRet, mLst, mTwo, mSl, on1, lcB, e_on2, e_on4, pure_bind, bind_assoc, asB, asI, e_isO, e_calm, e_both, e_cB1, e_cB2, e_cB3, e_cB4, e_endr, e_endn, if_true, if_false, Bool.false_eq_true, Bool.not_true, Bool.not_false, it_lst, it_tup, d_lenl, d_lent, List.length_map, ix_t0, ix_t1, ix_l0, ix_l1, c_tupl, c_tupt, asQ, qList, qLen, d_addi, d_sub, d_gt, d_lt, d_le, d_ge, PD.eq_int, PD.ne_int, PD.eq_str, PD.ne_str]
  rw [e5]
  simp only [runS, seqF, b1, b2, aCons, aNil, mIf, mAnd, mOr, mNot, vAnd, vOr, vNot, mRet, mLst, mTwo, mSl, on1, lcB, e_on2, e_on4, pure_bind, bind_assoc, asB, asI, e_isO, e_calm, e_both, e_cB1, e_cB2, e_cB3, e_cB4, e_endr, e_endn, if_true, if_false, Bool.false_eq_true, Bool.not_true, Bool.not_false, it_lst, it_tup, d_lenl, d_lent, List.length_map, ix_t0, ix_t1, ix_l0, ix_l1, c_tupl, c_tupt, asQ, qList, qLen, d_addi, d_sub, d_gt, d_lt, d_le, d_ge, PD.eq_int, PD.ne_int, PD.eq_str, PD.ne_str, e7, try_pure]
end G
namespace G
open PySem PySem.Spec L2 PD
open PyProof.Rows hiding St
def ordB (sets : List Str) : List Str → List D → Bool
  | _, [] => true
  | seen, .str s :: r => sets.contains s && !seen.contains s && ordB sets (seen ++ [s]) r
  | _, _ :: _ => false
def isOrd (b : Bd) : D → Bool
  | .tup xs => ordB b.sets [] xs && decide (b.sets.length ≤ xs.length)
  | _ => false
theorem oin_no (b : Bd) (neg : Bool) {x : D} (hd : x.dat = true) (h : isStr x = false) : oIn "Board" neg m_Board_contains (fun ds _ => ds) x b.d = pure (.bl (neg? neg false)) := by
  unfold oIn
  rw [show b.d = .obj "Board" (.tup [.tup (b.sizes.map .int), .tup (strsD b.sets)]) from rfl, e_isO]
  rw [show (.obj "Board" (.tup [.tup (b.sizes.map .int), .tup (strsD b.sets)]) : D) = b.d from rfl, contains_no b hd h]
  rfl
def ordT (b : Bd) (xs : List D) : Unit → D → M (Fl Unit) := fun _ d => on1 (fun c2 => mIf (mOr (b1 asB (b2 (oIn "Board" true m_Board_contains (fun ds _ => ds)) (b2 dIxA (pure (D.tup xs)) (pure c2)) (pure b.d))) (b1 asB (b2 dIn (b2 dIxA (pure (D.tup xs)) (pure c2)) (mSl (pure (D.tup xs)) (pure none) (b1 asI (pure c2)))))) ((pure c2) >>= fun d => raise ⟨"InvalidOrder", some ("index", d)⟩) (pure (.nx ()))) d
theorem ord_loop (b : Bd) (xs : List D) (hd : datAll xs = true) : ∀ (r : List D) (seen : List Str), xs = strsD seen ++ r →
    if ordB b.sets seen r = true then forD (ordT b xs) ((List.range' seen.length r.length).map fun (i : Nat) => D.int (i : Nat)) () = pure (.nx ())
    else ∃ d, forD (ordT b xs) ((List.range' seen.length r.length).map fun (i : Nat) => D.int (i : Nat)) () = raise ⟨"InvalidOrder", some ("index", d)⟩
  | [], seen, _ => by
    rw [if_pos (show ordB b.sets seen [] = true by unfold ordB; rfl)]
    rfl
  | x :: r, seen, e => by
    have hx : x.dat = true := by
      rw [e, datAll_all, List.all_append, Bool.and_eq_true] at hd
      have := hd.2
      rw [List.all_cons, Bool.and_eq_true] at this
      exact this.1
    have g : xs[seen.length]? = some x := by
      rw [e, List.getElem?_append_right (by rw [List.length_map]; exact Nat.le_refl _), List.length_map, Nat.sub_self]
      rfl
    have cut : cutL xs none (some ((seen.length : Nat) : Int)) = strsD seen := by
      rw [cut_hiN _ _ (by rw [e, List.length_append, List.length_map]; omega), e]
      exact List.take_left' (List.length_map ..)
    have er : (List.range' seen.length (x :: r).length).map (fun (i : Nat) => D.int (i : Nat)) = D.int (seen.length : Nat) :: (List.range' (seen.length + 1) r.length).map fun (i : Nat) => D.int (i : Nat) := by
      rw [List.length_cons, List.range'_succ, List.map_cons]
    rw [er, forD_nx]
    have bad : (c : oIn "Board" true m_Board_contains (fun ds _ => ds) x b.d = pure (.bl true)) → ordT b xs () (D.int (seen.length : Nat)) = raise ⟨"InvalidOrder", some ("index", D.int (seen.length : Nat))⟩ := fun c => by
      unfold ordT
      simp only [runS, seqF, b1, b2, aCons, aNil, mIf, mAnd, mOr, mNot, vAnd, vOr, vNot, mRet, mLst, mTwo, mSl, on1, lcB, e_on2, e_on4, pure_bind, bind_assoc, asB, asI, e_isO, e_calm, e_both, e_cB1, e_cB2, e_cB3, e_cB4, e_endr, e_endn, if_true, if_false, Bool.false_eq_true, Bool.not_true, Bool.not_false, it_lst, it_tup, d_lenl, d_lent, List.length_map, ix_t0, ix_t1, ix_l0, ix_l1, c_tupl, c_tupt, asQ, qList, qLen, d_addi, d_sub, d_gt, d_lt, d_le, d_ge, PD.eq_int, PD.ne_int, PD.eq_str, PD.ne_str, ix_tupN g, c]
    cases x with
    | str s =>
      by_cases c1 : b.sets.contains s = true
      · by_cases c2 : seen.contains s = true
        · have eo : ordB b.sets seen (.str s :: r) = false := by
            show (b.sets.contains s && !seen.contains s && ordB b.sets (seen ++ [s]) r) = false
            rw [c1, c2]
            rfl
          rw [if_neg (by rw [eo]; simp)]
          refine ⟨D.int (seen.length : Nat), ?_⟩
          have e1 : ordT b xs () (D.int (seen.length : Nat)) = raise ⟨"InvalidOrder", some ("index", D.int (seen.length : Nat))⟩ := by
            unfold ordT
            simp only [runS, seqF, b1, b2, aCons, aNil, mIf, mAnd, mOr, mNot, vAnd, vOr, vNot, mRet, mLst, mTwo, mSl, on1, lcB, e_on2, e_on4, pure_bind, bind_assoc, asB, asI, e_isO, e_calm, e_both, e_cB1, e_cB2, e_cB3, e_cB4, e_endr, e_endn, if_true, if_false, Bool.false_eq_true, Bool.not_true, Bool.not_false, it_lst, it_tup, d_lenl, d_lent, List.length_map, ix_t0, ix_t1, ix_l0, ix_l1, c_tupl, c_tupt, asQ, qList, qLen, d_addi, d_sub, d_gt, d_lt, d_le, d_ge, PD.eq_int, PD.ne_int, PD.eq_str, PD.ne_str, ix_tupN g, oin_str, c1, neg?, dSl, cut, in_tup, c2]
          rw [e1]
          rfl
        · rw [Bool.not_eq_true] at c2
          have e1 : ordT b xs () (D.int (seen.length : Nat)) = pure (.nx ()) := by
            unfold ordT
            simp only [runS, seqF, b1, b2, aCons, aNil, mIf, mAnd, mOr, mNot, vAnd, vOr, vNot, mRet, mLst, mTwo, mSl, on1, lcB, e_on2, e_on4, pure_bind, bind_assoc, asB, asI, e_isO, e_calm, e_both, e_cB1, e_cB2, e_cB3, e_cB4, e_endr, e_endn, if_true, if_false, Bool.false_eq_true, Bool.not_true, Bool.not_false, it_lst, it_tup, d_lenl, d_lent, List.length_map, ix_t0, ix_t1, ix_l0, ix_l1, c_tupl, c_tupt, asQ, qList, qLen, d_addi, d_sub, d_gt, d_lt, d_le, d_ge, PD.eq_int, PD.ne_int, PD.eq_str, PD.ne_str, ix_tupN g, oin_str, c1, neg?, dSl, cut, in_tup, c2]
          rw [e1, pure_bind]
          have ih := ord_loop b xs hd r (seen ++ [s]) (by rw [e]; simp)
          have eo : ordB b.sets seen (.str s :: r) = ordB b.sets (seen ++ [s]) r := by
            show (b.sets.contains s && !seen.contains s && ordB b.sets (seen ++ [s]) r) = _
            rw [c1, c2]
            rfl
          rw [eo]
          rw [List.length_append, List.length_singleton] at ih
          exact ih
      · rw [Bool.not_eq_true] at c1
        have eo : ordB b.sets seen (.str s :: r) = false := by
          show (b.sets.contains s && !seen.contains s && ordB b.sets (seen ++ [s]) r) = false
          rw [c1]
          rfl
        rw [if_neg (by rw [eo]; simp)]
        refine ⟨D.int (seen.length : Nat), ?_⟩
        rw [bad (by rw [oin_str, c1]; rfl)]
        rfl
    | _ =>
      rw [if_neg (by simp [ordB])]
      refine ⟨D.int (seen.length : Nat), ?_⟩
      rw [bad (by rw [oin_no b true hx rfl]; rfl)]
      rfl
theorem try_raise {S : Type} (c f : Str) (o : List Str) (d : D) (h : M D) : tryM c o (raise ⟨c, some (f, d)⟩ : M (Fl S)) (mRet h) = nox (mRet h) := by
  funext g
  show (if c = c then nox (mRet h : M (Fl S)) g else _) = _
  rw [if_pos rfl]
theorem blen_eq {b : Bd} (B : BdOk b) : oLen "Board" m_Board_len (fun ds _ => ds) b.d = pure (.int (b.sets.length : Nat)) := by
  have e : m_Board_len [b.d] = pure (.int (b.sets.length : Nat)) := by
    unfold m_Board_len Bd.d
    simp only [runS, seqF, b1, b2, aCons, aNil, mIf, mAnd, mOr, mNot, vAnd, vOr, vNot, mRet, mLst, mTwo, mSl, on1, lcB, e_on2, e_on4, pure_bind, bind_assoc, asB, asI, e_isO, e_calm, e_both, e_cB1, e_cB2, e_cB3, e_cB4, e_endr, e_endn, if_true, if_false, Bool.false_eq_true, Bool.not_true, Bool.not_false, it_lst, it_tup, d_lenl, d_lent, List.length_map, ix_t0, ix_t1, ix_l0, ix_l1, c_tupl, c_tupt, asQ, qList, qLen, d_addi, d_sub, d_gt, d_lt, d_le, d_ge, PD.eq_int, PD.ne_int, PD.eq_str, PD.ne_str]
  unfold oLen
  rw [show b.d = .obj "Board" (.tup [.tup (b.sizes.map .int), .tup (strsD b.sets)]) from rfl, e_isO]
  rw [show (.obj "Board" (.tup [.tup (b.sizes.map .int), .tup (strsD b.sets)]) : D) = b.d from rfl, e, e_calm, pure_bind]
  have := B.small
  exact if_pos ⟨by omega, by omega⟩
theorem order_eq {b : Bd} (B : BdOk b) {xs : List D} (hd : datAll xs = true) (hl : xs.length ≤ 100000) : m_is_order [b.d, .tup xs] = pure (.bl (isOrd b (.tup xs))) := by
  have h := ord_loop b xs hd xs [] rfl
  rw [List.length_nil, ← List.range_eq_range'] at h
  have e0 : isiD (tblT "tuple" []) (.tup xs) = pure (.bl true) := rfl
  show m_is_order [b.d, .tup xs] = pure (.bl (ordB b.sets [] xs && decide (b.sets.length ≤ xs.length)))
  by_cases c : ordB b.sets [] xs = true
  · rw [if_pos c] at h
    by_cases c2 : b.sets.length ≤ xs.length
    · have e : m_check_order [b.d, .tup xs] = pure .non := by
        unfold ordT at h
        simp only [runS, seqF, b1, b2, aCons, aNil, mIf, mAnd, mOr, mNot, vAnd, vOr, vNot, mRet, mLst, mTwo, mSl, on1, lcB, e_on2, e_on4, pure_bind, bind_assoc, asB, asI, e_isO, e_calm, e_both, e_cB1, e_cB2, e_cB3, e_cB4, e_endr, e_endn, if_true, if_false, Bool.false_eq_true, Bool.not_true, Bool.not_false, it_lst, it_tup, d_lenl, d_lent, List.length_map, ix_t0, ix_t1, ix_l0, ix_l1, c_tupl, c_tupt, asQ, qList, qLen, d_addi, d_sub, d_gt, d_lt, d_le, d_ge, PD.eq_int, PD.ne_int, PD.eq_str, PD.ne_str] at h
        unfold m_check_order
        simp only [runS, seqF, b1, b2, aCons, aNil, mIf, mAnd, mOr, mNot, vAnd, vOr, vNot, mRet, mLst, mTwo, mSl, on1, lcB, e_on2, e_on4, pure_bind, bind_assoc, asB, asI, e_isO, e_calm, e_both, e_cB1, e_cB2, e_cB3, e_cB4, e_endr, e_endn, if_true, if_false, Bool.false_eq_true, Bool.not_true, Bool.not_false, it_lst, it_tup, d_lenl, d_lent, List.length_map, ix_t0, ix_t1, ix_l0, ix_l1, c_tupl, c_tupt, asQ, qList, qLen, d_addi, d_sub, d_gt, d_lt, d_le, d_ge, PD.eq_int, PD.ne_int, PD.eq_str, PD.ne_str, e0, rngN xs.length (by omega), h, blen_eq B, decide_eq_false (show ¬ ((xs.length : Nat) : Int) < ((b.sets.length : Nat) : Int) by omega)]
      unfold m_is_order
      simp only [runS, seqF, b1, b2, aCons, aNil, mIf, mAnd, mOr, mNot, vAnd, vOr, vNot, mRet, mLst, mTwo, mSl, on1, lcB, e_on2, e_on4, pure_bind, bind_assoc, asB, asI, e_isO, e_calm, e_both, e_cB1, e_cB2, e_cB3, e_cB4, e_endr, e_endn, if_true, if_false, Bool.false_eq_true, Bool.not_true, Bool.not_false, it_lst, it_tup, d_lenl, d_lent, List.length_map, ix_t0, ix_t1, ix_l0, ix_l1, c_tupl, c_tupt, asQ, qList, qLen, d_addi, d_sub, d_gt, d_lt, d_le, d_ge, PD.eq_int, PD.ne_int, PD.eq_str, PD.ne_str, e, try_pure, c, decide_eq_true c2]
      rfl
    · have e : m_check_order [b.d, .tup xs] = raise ⟨"InvalidOrder", some ("index", .int (xs.length : Nat))⟩ := by
        unfold ordT at h
        simp only [runS, seqF, b1, b2, aCons, aNil, mIf, mAnd, mOr, mNot, vAnd, vOr, vNot, mRet, mLst, mTwo, mSl, on1, lcB, e_on2, e_on4, pure_bind, bind_assoc, asB, asI, e_isO, e_calm, e_both, e_cB1, e_cB2, e_cB3, e_cB4, e_endr, e_endn, if_true, if_false, Bool.false_eq_true, Bool.not_true, Bool.not_false, it_lst, it_tup, d_lenl, d_lent, List.length_map, ix_t0, ix_t1, ix_l0, ix_l1, c_tupl, c_tupt, asQ, qList, qLen, d_addi, d_sub, d_gt, d_lt, d_le, d_ge, PD.eq_int, PD.ne_int, PD.eq_str, PD.ne_str] at h
        unfold m_check_order
        simp only [runS, seqF, b1, b2, aCons, aNil, mIf, mAnd, mOr, mNot, vAnd, vOr, vNot, mRet, mLst, mTwo, mSl, on1, lcB, e_on2, e_on4, pure_bind, bind_assoc, asB, asI, e_isO, e_calm, e_both, e_cB1, e_cB2, e_cB3, e_cB4, e_endr, e_endn, if_true, if_false, Bool.false_eq_true, Bool.not_true, Bool.not_false, it_lst, it_tup, d_lenl, d_lent, List.length_map, ix_t0, ix_t1, ix_l0, ix_l1, c_tupl, c_tupt, asQ, qList, qLen, d_addi, d_sub, d_gt, d_lt, d_le, d_ge, PD.eq_int, PD.ne_int, PD.eq_str, PD.ne_str, e0, rngN xs.length (by omega), h, blen_eq B, decide_eq_true (show ((xs.length : Nat) : Int) < ((b.sets.length : Nat) : Int) by omega)]
        rfl
      unfold m_is_order
      simp only [runS, seqF, b1, b2, aCons, aNil, mIf, mAnd, mOr, mNot, vAnd, vOr, vNot, mRet, mLst, mTwo, mSl, on1, lcB, e_on2, e_on4, pure_bind, bind_assoc, asB, asI, e_isO, e_calm, e_both, e_cB1, e_cB2, e_cB3, e_cB4, e_endr, e_endn, if_true, if_false, Bool.false_eq_true, Bool.not_true, Bool.not_false, it_lst, it_tup, d_lenl, d_lent, List.length_map, ix_t0, ix_t1, ix_l0, ix_l1, c_tupl, c_tupt, asQ, qList, qLen, d_addi, d_sub, d_gt, d_lt, d_le, d_ge, PD.eq_int, PD.ne_int, PD.eq_str, PD.ne_str, e, c, decide_eq_false c2]
      rfl
  · rw [if_neg c] at h
    obtain ⟨d, h⟩ := h
    have e : m_check_order [b.d, .tup xs] = raise ⟨"InvalidOrder", some ("index", d)⟩ := by
      unfold ordT at h
      simp only [runS, seqF, b1, b2, aCons, aNil, mIf, mAnd, mOr, mNot, vAnd, vOr, vNot, mRet, mLst, mTwo, mSl, on1, lcB, e_on2, e_on4, pure_bind, bind_assoc, asB, asI, e_isO, e_calm, e_both, e_cB1, e_cB2, e_cB3, e_cB4, e_endr, e_endn, if_true, if_false, Bool.false_eq_true, Bool.not_true, Bool.not_false, it_lst, it_tup, d_lenl, d_lent, List.length_map, ix_t0, ix_t1, ix_l0, ix_l1, c_tupl, c_tupt, asQ, qList, qLen, d_addi, d_sub, d_gt, d_lt, d_le, d_ge, PD.eq_int, PD.ne_int, PD.eq_str, PD.ne_str] at h
      unfold m_check_order
      simp only [runS, seqF, b1, b2, aCons, aNil, mIf, mAnd, mOr, mNot, vAnd, vOr, vNot, mRet, mLst, mTwo, mSl, on1, lcB, e_on2, e_on4, pure_bind, bind_assoc, asB, asI, e_isO, e_calm, e_both, e_cB1, e_cB2, e_cB3, e_cB4, e_endr, e_endn, if_true, if_false, Bool.false_eq_true, Bool.not_true, Bool.not_false, it_lst, it_tup, d_lenl, d_lent, List.length_map, ix_t0, ix_t1, ix_l0, ix_l1, c_tupl, c_tupt, asQ, qList, qLen, d_addi, d_sub, d_gt, d_lt, d_le, d_ge, PD.eq_int, PD.ne_int, PD.eq_str, PD.ne_str, e0, rngN xs.length (by omega), h]
      rfl
    rw [Bool.not_eq_true] at c
    unfold m_is_order
    simp only [runS, seqF, b1, b2, aCons, aNil, mIf, mAnd, mOr, mNot, vAnd, vOr, vNot, mRet, mLst, mTwo, mSl, on1, lcB, e_on2, e_on4, pure_bind, bind_assoc, asB, asI, e_isO, e_calm, e_both, e_cB1, e_cB2, e_cB3, e_cB4, e_endr, e_endn, if_true, if_false, Bool.false_eq_true, Bool.not_true, Bool.not_false, it_lst, it_tup, d_lenl, d_lent, List.length_map, ix_t0, ix_t1, ix_l0, ix_l1, c_tupl, c_tupt, asQ, qList, qLen, d_addi, d_sub, d_gt, d_lt, d_le, d_ge, PD.eq_int, PD.ne_int, PD.eq_str, PD.ne_str, e, c]
    rfl
theorem order_no {b : Bd} {x : D} (h : isiD (tblT "tuple" []) x = pure (.bl false)) : m_is_order [b.d, x] = pure (.bl false) := by
  have e : m_check_order [b.d, x] = raise ⟨"InvalidOrder", some ("index", .non)⟩ := by
    unfold m_check_order
    simp only [runS, seqF, b1, b2, aCons, aNil, mIf, mAnd, mOr, mNot, vAnd, vOr, vNot, mRet, mLst, mTwo, mSl, on1, lcB, e_on2, e_on4, pure_bind, bind_assoc, asB, asI, e_isO, e_calm, e_both, e_cB1, e_cB2, e_cB3, e_cB4, e_endr, e_endn, if_true, if_false, Bool.false_eq_true, Bool.not_true, Bool.not_false, it_lst, it_tup, d_lenl, d_lent, List.length_map, ix_t0, ix_t1, ix_l0, ix_l1, c_tupl, c_tupt, asQ, qList, qLen, d_addi, d_sub, d_gt, d_lt, d_le, d_ge, PD.eq_int, PD.ne_int, PD.eq_str, PD.ne_str, h]
    rfl
  unfold m_is_order
  simp only [runS, seqF, b1, b2, aCons, aNil, mIf, mAnd, mOr, mNot, vAnd, vOr, vNot, mRet, mLst, mTwo, mSl, on1, lcB, e_on2, e_on4, pure_bind, bind_assoc, asB, asI, e_isO, e_calm, e_both, e_cB1, e_cB2, e_cB3, e_cB4, e_endr, e_endn, if_true, if_false, Bool.false_eq_true, Bool.not_true, Bool.not_false, it_lst, it_tup, d_lenl, d_lent, List.length_map, ix_t0, ix_t1, ix_l0, ix_l1, c_tupl, c_tupt, asQ, qList, qLen, d_addi, d_sub, d_gt, d_lt, d_le, d_ge, PD.eq_int, PD.ne_int, PD.eq_str, PD.ne_str, e]
  rfl
theorem fit_eq {ys : List Str} {fs : Fs} (h : ∀ f ∈ fs, f.1 ∈ ys ∧ f.2 ∈ ys) (hl : fs.length ≤ 190) (hy : ys.length ≤ 1000) : m_does_fit [.tup (prsD fs), .tup (strsD ys)] = pure (.bl (fitB ys fs)) := by
  have e : lcD (fun d => on2 (lcB (fun c1 => pure true) (fun c1 => b2 dLt ((pure (D.tup (strsD ys))) >>= kIndex (pure c1.1)) ((pure (D.tup (strsD ys))) >>= kIndex (pure c1.2)))) d) (prsD fs) [] = pure (fs.map fun f => D.bl (decide (ys.idxOf f.1 < ys.idxOf f.2))) :=
    lc_map (h := fun f => D.bl (decide (ys.idxOf f.1 < ys.idxOf f.2))) fs (fun f hf => by
      simp only [runS, seqF, b1, b2, aCons, aNil, mIf, mAnd, mOr, mNot, vAnd, vOr, vNot, mRet, mLst, mTwo, mSl, on1, lcB, e_on2, e_on4, pure_bind, bind_assoc, asB, asI, e_isO, e_calm, e_both, e_cB1, e_cB2, e_cB3, e_cB4, e_endr, e_endn, if_true, if_false, Bool.false_eq_true, Bool.not_true, Bool.not_false, it_lst, it_tup, d_lenl, d_lent, List.length_map, ix_t0, ix_t1, ix_l0, ix_l1, c_tupl, c_tupt, asQ, qList, qLen, d_addi, d_sub, d_gt, d_lt, d_le, d_ge, PD.eq_int, PD.ne_int, PD.eq_str, PD.ne_str, idx_tup ys f.1 (h f hf).1 (by omega), idx_tup ys f.2 (h f hf).2 (by omega)]
      congr 3
      simp) (by omega)
  unfold m_does_fit
  simp only [runS, seqF, b1, b2, aCons, aNil, mIf, mAnd, mOr, mNot, vAnd, vOr, vNot, mRet, mLst, mTwo, mSl, on1, lcB, e_on2, e_on4, pure_bind, bind_assoc, asB, asI, e_isO, e_calm, e_both, e_cB1, e_cB2, e_cB3, e_cB4, e_endr, e_endn, if_true, if_false, Bool.false_eq_true, Bool.not_true, Bool.not_false, it_lst, it_tup, d_lenl, d_lent, List.length_map, ix_t0, ix_t1, ix_l0, ix_l1, c_tupl, c_tupt, asQ, qList, qLen, d_addi, d_sub, d_gt, d_lt, d_le, d_ge, PD.eq_int, PD.ne_int, PD.eq_str, PD.ne_str] at e
  simp only [runS, seqF, b1, b2, aCons, aNil, mIf, mAnd, mOr, mNot, vAnd, vOr, vNot, mRet, mLst, mTwo, mSl, on1, lcB, e_on2, e_on4, pure_bind, bind_assoc, asB, asI, e_isO, e_calm, e_both, e_cB1, e_cB2, e_cB3, e_cB4, e_endr, e_endn, if_true, if_false, Bool.false_eq_true, Bool.not_true, Bool.not_false, it_lst, it_tup, d_lenl, d_lent, List.length_map, ix_t0, ix_t1, ix_l0, ix_l1, c_tupl, c_tupt, asQ, qList, qLen, d_addi, d_sub, d_gt, d_lt, d_le, d_ge, PD.eq_int, PD.ne_int, PD.eq_str, PD.ne_str, e, f_all' fs fun f => decide (ys.idxOf f.1 < ys.idxOf f.2)]
  rfl
end G
namespace G
open PySem PySem.Spec L2 PD
open PyProof.Rows hiding St
theorem for_filter {α : Type} {b : List D → D → M (Fl (List D))} {f : α → D} {p : α → Bool} : ∀ (xs : List α) (acc : List D), acc.length + xs.length ≤ 100000 → (∀ x ∈ xs, ∀ acc : List D, acc.length ≤ 100000 → b acc (f x) = pure (.nx (if p x = true then acc ++ [f x] else acc))) → forD b (xs.map f) acc = pure (.nx (acc ++ (xs.filter p).map f))
  | [], acc, _, _ => by
    rw [List.filter_nil, List.map_nil, List.append_nil]
    rfl
  | x :: xs, acc, h, hb => by
    rw [List.length_cons] at h
    rw [List.map_cons, forD_nx, hb x (List.mem_cons_self ..) acc (by omega), pure_bind, List.filter_cons]
    cases p x with
    | true =>
      rw [if_pos rfl, if_pos rfl]
      have ih := for_filter xs (acc ++ [f x]) (by rw [List.length_append, List.length_singleton]; omega) fun y hy => hb y (List.mem_cons_of_mem _ hy)
      rw [List.append_assoc] at ih
      exact ih
    | false =>
      rw [if_neg (by simp), if_neg (by simp)]
      exact for_filter xs acc (by omega) fun y hy => hb y (List.mem_cons_of_mem _ hy)
theorem lc2_map {α γ : Type} {f : α → D} {src : D → M (List D)} {t : D → M Bool} {e : D → D → M (Option D)} {es : α → List γ} {k : γ → D} {h : α → γ → D} : ∀ (xs : List α) (acc : List D), (∀ x ∈ xs, t (f x) = pure true ∧ src (f x) = pure ((es x).map k) ∧ (∀ y ∈ es x, e (f x) (k y) = pure (some (h x y)))) → acc.length + (xs.map fun x => (es x).length).sum ≤ 1000000 →
    lc2D on1 t src e (xs.map f) acc = pure (acc ++ xs.flatMap fun x => (es x).map (h x))
  | [], acc, _, _ => by
    rw [List.flatMap_nil, List.append_nil]
    rfl
  | x :: xs, acc, hb, hl => by
    obtain ⟨h1, h2, h3⟩ := hb x (List.mem_cons_self ..)
    rw [List.map_cons, List.sum_cons] at hl
    have e1 : lcD (e (f x)) ((es x).map k) acc = pure (acc ++ (es x).map (h x)) := by
      rw [lc_filterMap (h := fun y => some (h x y)) (es x) acc h3 (by omega)]
      congr 2
      generalize es x = l
      induction l with
      | nil => rfl
      | cons a l ih =>
        rw [List.map_cons, ← ih]
        rfl
    rw [List.map_cons]
    unfold lc2D
    have e2 : (on1 (fun c => t c >>= fun k => if k = true then src c >>= fun es => pure (some (c, es)) else pure none) (f x) : M (Option (D × List D))) = pure (some (f x, (es x).map k)) := by
      rw [e_on1, h1, pure_bind, if_pos rfl, h2, pure_bind]
    rw [e2, nox_pure, pure_bind]
    dsimp only
    rw [e1, pure_bind, lc2_map xs _ (fun y hy => hb y (List.mem_cons_of_mem _ hy)) (by rw [List.length_append, List.length_map]; omega), List.flatMap_cons, List.append_assoc]
def topsL (b : Bd) (ys : List Str) : List Str := b.sets.filter fun s => (b.near s).all fun t => decide (ys.idxOf t < ys.idxOf s)
theorem near_mem {b : Bd} {s t : Str} (h : t ∈ b.near s) : t ∈ b.sets ∧ adjS t s = true := List.mem_filter.mp h
theorem near_len (b : Bd) (s : Str) : (b.near s).length ≤ b.sets.length := List.length_filter_le ..
theorem peaks_eq {b : Bd} (B : BdOk b) {ys : List Str} (hm : ∀ s ∈ b.sets, s ∈ ys) (hy : ys.length ≤ 1000) : m_peaks_by [.tup (strsD ys), .tup (strsD b.whole)] = pure (.lst (strsD (topsL b ys))) := by
  have hs := B.small
  have key : forD (S := List D) (fun s2 d => on1 (fun c3 => mIf (b1 asB (aCons (mLst ((b1 items ((aCons (pure (D.tup (strsD b.whole))) (aCons (pure c3) aNil)) D (cB 2 m_beside_part fun ds _ => ds))) >>= fun ds => lcD (fun d => on1 (lcB (fun c4 => pure true) (fun c4 => b2 dLt ((pure (D.tup (strsD ys))) >>= kIndex (pure c4)) ((pure (D.tup (strsD ys))) >>= kIndex (pure c3)))) d) ds [])) aNil D fAll)) (mApp (pure c3) s2 fun v5 => pure (.nx (s2 ++ [v5]))) (pure (.nx s2))) d) (strsD b.sets) [] = pure (.nx ([] ++ strsD (topsL b ys))) :=
    for_filter b.sets [] (by rw [List.length_nil]; omega) fun s hs' acc ha => by
      have e : lcD (fun d => on1 (lcB (fun c4 => pure true) (fun c4 => b2 dLt ((pure (D.tup (strsD ys))) >>= kIndex (pure c4)) ((pure (D.tup (strsD ys))) >>= kIndex (pure (.str s))))) d) (strsD (b.near s)) [] = pure ((b.near s).map fun t => D.bl (decide (ys.idxOf t < ys.idxOf s))) :=
        lc_map (h := fun t => D.bl (decide (ys.idxOf t < ys.idxOf s))) (b.near s) (fun t ht => by
          simp only [runS, seqF, b1, b2, aCons, aNil, mIf, mAnd, mOr, mNot, vAnd, vOr, vNot, mRet, mLst, mTwo, mSl, on1, lcB, e_on2, e_on4, pure_bind, bind_assoc, asB, asI, e_isO, e_calm, e_both, e_cB1, e_cB2, e_cB3, e_cB4, e_endr, e_endn, if_true, if_false, Bool.false_eq_true, Bool.not_true, Bool.not_false, it_lst, it_tup, d_lenl, d_lent, List.length_map, ix_t0, ix_t1, ix_l0, ix_l1, c_tupl, c_tupt, asQ, qList, qLen, d_addi, d_sub, d_gt, d_lt, d_le, d_ge, PD.eq_int, PD.ne_int, PD.eq_str, PD.ne_str, idx_tup ys t (hm t (near_mem ht).1) (by omega), idx_tup ys s (hm s hs') (by omega)]
          congr 3
          simp) (by have := near_len b s; omega)
      simp only [runS, seqF, b1, b2, aCons, aNil, mIf, mAnd, mOr, mNot, vAnd, vOr, vNot, mRet, mLst, mTwo, mSl, on1, lcB, e_on2, e_on4, pure_bind, bind_assoc, asB, asI, e_isO, e_calm, e_both, e_cB1, e_cB2, e_cB3, e_cB4, e_endr, e_endn, if_true, if_false, Bool.false_eq_true, Bool.not_true, Bool.not_false, it_lst, it_tup, d_lenl, d_lent, List.length_map, ix_t0, ix_t1, ix_l0, ix_l1, c_tupl, c_tupt, asQ, qList, qLen, d_addi, d_sub, d_gt, d_lt, d_le, d_ge, PD.eq_int, PD.ne_int, PD.eq_str, PD.ne_str] at e
      simp only [runS, seqF, b1, b2, aCons, aNil, mIf, mAnd, mOr, mNot, vAnd, vOr, vNot, mRet, mLst, mTwo, mSl, on1, lcB, e_on2, e_on4, pure_bind, bind_assoc, asB, asI, e_isO, e_calm, e_both, e_cB1, e_cB2, e_cB3, e_cB4, e_endr, e_endn, if_true, if_false, Bool.false_eq_true, Bool.not_true, Bool.not_false, it_lst, it_tup, d_lenl, d_lent, List.length_map, ix_t0, ix_t1, ix_l0, ix_l1, c_tupl, c_tupt, asQ, qList, qLen, d_addi, d_sub, d_gt, d_lt, d_le, d_ge, PD.eq_int, PD.ne_int, PD.eq_str, PD.ne_str, B.beside s hs', e, f_all' (b.near s) fun t => decide (ys.idxOf t < ys.idxOf s), mApp, if_pos (lt_line (show acc.length ≤ 1000000 by omega))]
      cases (b.near s).all fun t => decide (ys.idxOf t < ys.idxOf s) <;> rfl
  unfold m_peaks_by
  simp only [runS, seqF, b1, b2, aCons, aNil, mIf, mAnd, mOr, mNot, vAnd, vOr, vNot, mRet, mLst, mTwo, mSl, on1, lcB, e_on2, e_on4, pure_bind, bind_assoc, asB, asI, e_isO, e_calm, e_both, e_cB1, e_cB2, e_cB3, e_cB4, e_endr, e_endn, if_true, if_false, Bool.false_eq_true, Bool.not_true, Bool.not_false, it_lst, it_tup, d_lenl, d_lent, List.length_map, ix_t0, ix_t1, ix_l0, ix_l1, c_tupl, c_tupt, asQ, qList, qLen, d_addi, d_sub, d_gt, d_lt, d_le, d_ge, PD.eq_int, PD.ne_int, PD.eq_str, PD.ne_str] at key
  simp only [runS, seqF, b1, b2, aCons, aNil, mIf, mAnd, mOr, mNot, vAnd, vOr, vNot, mRet, mLst, mTwo, mSl, on1, lcB, e_on2, e_on4, pure_bind, bind_assoc, asB, asI, e_isO, e_calm, e_both, e_cB1, e_cB2, e_cB3, e_cB4, e_endr, e_endn, if_true, if_false, Bool.false_eq_true, Bool.not_true, Bool.not_false, it_lst, it_tup, d_lenl, d_lent, List.length_map, ix_t0, ix_t1, ix_l0, ix_l1, c_tupl, c_tupt, asQ, qList, qLen, d_addi, d_sub, d_gt, d_lt, d_le, d_ge, PD.eq_int, PD.ne_int, PD.eq_str, PD.ne_str, n_lst [] (by show 0 ≤ 16777216; decide), B.inside, key]
  rfl
theorem succs_map (fs : Fs) (p : Str) (found : List Str) : (fs.filter fun f => f.1 == p && !found.contains f.2).map (fun f => D.str f.2) = strsD (succs fs p found) := by
  unfold succs
  show _ = (List.map _ _).map D.str
  rw [List.map_map]
  rfl
theorem strs_append (xs ys : List Str) : strsD (xs ++ ys) = strsD xs ++ strsD ys := List.map_append
theorem reached_while (fs : Fs) (nd : fs.Nodup) (hl : fs.length ≤ 1000) {a : Str} {U : List Str} (hU : ∀ f ∈ fs, f.2 ∈ U) (hUl : U.length ≤ 1000) : ∀ (n : Nat) (w found : List Str), SeInv fs a U w found → U.length + w.length < n + found.length →
    ∃ found', (∀ c, c ∈ found' ↔ Reach fs a c) ∧ found'.length ≤ 1000 ∧ whileD (S := List D × D) (fun s3 => b1 asB (b2 qNe (pure (false, s3.1)) (aNil D dLst))) (fun s3 => mPop s3.1 fun v4 => ((b1 items (pure (.tup (prsD fs)))) >>= fun ds => lcD (fun d => on2 (lcB (fun c5 => mAnd (b1 asB (b2 dEq (pure c5.1) (pure v4))) (b1 asB (b2 dNotIn (pure c5.2) (pure s3.2)))) (fun c5 => pure c5.2)) d) ds []) >>= fun v6 => mTwo (b2 dAdd (pure s3.2) (pure (D.lst v6))) (mAddO s3.1.dropLast (pure (D.lst v6))) fun v7 v8 => pure (.nx (v8, v7))) n (strsD w, .lst (strsD found)) = pure (.nx ([], .lst (strsD found')))
  | 0, w, found, i, h => absurd (nodup_le i.nd i.sub) (by omega)
  | n + 1, w, found, i, h => by
    unfold whileD
    have hwl := i.wlen
    have hfl := nodup_le i.nd i.sub
    cases e : w.getLast? with
    | none =>
      have hw : w = [] := by simpa using e
      subst hw
      refine ⟨found, i.fin, by omega, ?_⟩
      simp only [runS, seqF, b1, b2, aCons, aNil, mIf, mAnd, mOr, mNot, vAnd, vOr, vNot, mRet, mLst, mTwo, mSl, on1, lcB, e_on2, e_on4, pure_bind, bind_assoc, asB, asI, e_isO, e_calm, e_both, e_cB1, e_cB2, e_cB3, e_cB4, e_endr, e_endn, if_true, if_false, Bool.false_eq_true, Bool.not_true, Bool.not_false, it_lst, it_tup, d_lenl, d_lent, List.length_map, ix_t0, ix_t1, ix_l0, ix_l1, c_tupl, c_tupt, asQ, qList, qLen, d_addi, d_sub, d_gt, d_lt, d_le, d_ge, PD.eq_int, PD.ne_int, PD.eq_str, PD.ne_str, d_lst [] (by show 0 ≤ 16777216; decide), qne_nil, List.isEmpty_nil]
      rfl
    | some p =>
      have hne : w ≠ [] := fun z => by rw [z] at e; cases e
      have hl2 : w.dropLast.length + 1 = w.length := by
        rw [List.length_dropLast]
        have := List.length_pos_iff.mpr hne
        omega
      have hpop : (strsD w)[(strsD w).length - 1]? = some (.str p) := by
        rw [List.getLast?_eq_getElem?] at e
        rw [List.length_map, List.getElem?_map, e]
        rfl
      have hsl := succs_len fs p found
      have hsn := nodup_le (i.next nd hU e).nd (i.next nd hU e).sub
      have hse : w.isEmpty = false := by cases w with
        | nil => exact absurd rfl hne
        | cons _ _ => rfl
      have hdl : (strsD w).dropLast = strsD w.dropLast := List.map_dropLast.symm
      obtain ⟨found', h1, hlf, h2⟩ := reached_while fs nd hl hU hUl n _ _ (i.next nd hU e) (by rw [List.length_append, List.length_append]; omega)
      refine ⟨found', h1, hlf, ?_⟩
      have hf : lcD (fun d => on2 (lcB (fun c5 => mAnd (b1 asB (b2 dEq (pure c5.1) (pure (D.str p)))) (b1 asB (b2 dNotIn (pure c5.2) (pure (D.lst (strsD found)))))) (fun c5 => pure c5.2)) d) (prsD fs) [] = pure (strsD (succs fs p found)) := by
        rw [lc_filter (p := fun f => f.1 == p && !found.contains f.2) (h := fun f : Str × Str => D.str f.2) fs (fun f _ => ?_) (by omega), succs_map]
        simp only [runS, seqF, b1, b2, aCons, aNil, mIf, mAnd, mOr, mNot, vAnd, vOr, vNot, mRet, mLst, mTwo, mSl, on1, lcB, e_on2, e_on4, pure_bind, bind_assoc, asB, asI, e_isO, e_calm, e_both, e_cB1, e_cB2, e_cB3, e_cB4, e_endr, e_endn, if_true, if_false, Bool.false_eq_true, Bool.not_true, Bool.not_false, it_lst, it_tup, d_lenl, d_lent, List.length_map, ix_t0, ix_t1, ix_l0, ix_l1, c_tupl, c_tupt, asQ, qList, qLen, d_addi, d_sub, d_gt, d_lt, d_le, d_ge, PD.eq_int, PD.ne_int, PD.eq_str, PD.ne_str, nin_lst]
        cases f.1 == p <;> cases found.contains f.2 <;> rfl
      have la : (strsD found).length + (strsD (succs fs p found)).length ≤ sizeLine := by rw [List.length_map, List.length_map]; exact len_line (by omega)
      have lb : (strsD w.dropLast).length + (strsD (succs fs p found)).length ≤ sizeLine := by rw [List.length_map, List.length_map]; exact len_line (by omega)
      simp only [b1, b2, aNil, pure_bind, d_lst [] (by show 0 ≤ 16777216; decide), qne_nil, hse, Bool.not_false, asB, if_true, mPop, hpop, it_tup]
      rw [hdl]
      simp only [b1, b2, pure_bind, asB] at hf
      rw [hf]
      simp only [pure_bind, mTwo, d_addl _ _ la, mAddO, asL, if_pos lb]
      simp only [b1, b2, aNil, pure_bind, it_tup, mTwo, asB] at h2
      rw [strs_append, strs_append] at h2
      exact h2
theorem reached_eq (fs : Fs) (nd : fs.Nodup) (hl : fs.length ≤ 190) (a : Str) : ∃ found : List Str, (∀ c, c ∈ found ↔ Reach fs a c) ∧ found.length ≤ 1000 ∧ m_reached_from [.tup (prsD fs), .str a] = pure (.lst (strsD found)) := by
  obtain ⟨found, h1, h3, h2⟩ := reached_while fs nd (by omega) (a := a) (U := a :: fs.map (·.2)) (fun f hf => List.mem_cons_of_mem _ (List.mem_map.mpr ⟨f, hf, rfl⟩)) (by rw [List.length_cons, List.length_map]; omega) 200 [a] [a] (SeInv.start (List.mem_cons_self ..)) (by simp; omega)
  refine ⟨found, h1, h3, ?_⟩
  unfold m_reached_from
  dsimp only
  rw [show (aCons (pure (D.str a)) aNil) (List D) nLst = pure [D.str a] from n_lst [D.str a] (by show 1 ≤ 16777216; decide), show (aCons (pure (D.str a)) aNil) D dLst = pure (.lst [D.str a]) from d_lst [D.str a] (by show 1 ≤ 16777216; decide), e_two, pure_bind]
  rw [show whileD (S := List D × D) _ _ 200 ([D.str a], .lst [D.str a]) = pure (.nx ([], .lst (strsD found))) from h2]
  simp only [runS, seqF, b1, b2, aCons, aNil, mIf, mAnd, mOr, mNot, vAnd, vOr, vNot, mRet, mLst, mTwo, mSl, on1, lcB, e_on2, e_on4, pure_bind, bind_assoc, asB, asI, e_isO, e_calm, e_both, e_cB1, e_cB2, e_cB3, e_cB4, e_endr, e_endn, if_true, if_false, Bool.false_eq_true, Bool.not_true, Bool.not_false, it_lst, it_tup, d_lenl, d_lent, List.length_map, ix_t0, ix_t1, ix_l0, ix_l1, c_tupl, c_tupt, asQ, qList, qLen, d_addi, d_sub, d_gt, d_lt, d_le, d_ge, PD.eq_int, PD.ne_int, PD.eq_str, PD.ne_str]
theorem some_eq (b : Bd) (fs : Fs) (nd : fs.Nodup) (hl : fs.length ≤ 190) (a : Str) (gs : List Str) (hg : gs.length ≤ 1000) : m_leads_to_some [notesD b fs, .str a, .lst (strsD gs)] = pure (.bl (gs.any (reachB fs a))) := by
  obtain ⟨found, h1, h3, h2⟩ := reached_eq fs nd hl a
  have e : lcD (fun d => on1 (lcB (fun c2 => pure true) (fun c2 => b2 dIn (pure c2) (pure (D.lst (strsD found))))) d) (strsD gs) [] = pure (gs.map fun g => D.bl (reachB fs a g)) :=
    lc_map (h := fun g => D.bl (reachB fs a g)) gs (fun g _ => by
      simp only [runS, seqF, b1, b2, aCons, aNil, mIf, mAnd, mOr, mNot, vAnd, vOr, vNot, mRet, mLst, mTwo, mSl, on1, lcB, e_on2, e_on4, pure_bind, bind_assoc, asB, asI, e_isO, e_calm, e_both, e_cB1, e_cB2, e_cB3, e_cB4, e_endr, e_endn, if_true, if_false, Bool.false_eq_true, Bool.not_true, Bool.not_false, it_lst, it_tup, d_lenl, d_lent, List.length_map, ix_t0, ix_t1, ix_l0, ix_l1, c_tupl, c_tupt, asQ, qList, qLen, d_addi, d_sub, d_gt, d_lt, d_le, d_ge, PD.eq_int, PD.ne_int, PD.eq_str, PD.ne_str, in_lst, contains_reach h1]) (by omega)
  unfold m_leads_to_some
  have en : notesD b fs = .obj "Notes" (.tup [b.d, .tup (prsD fs)]) := rfl
  simp only [runS, seqF, b1, b2, aCons, aNil, mIf, mAnd, mOr, mNot, vAnd, vOr, vNot, mRet, mLst, mTwo, mSl, on1, lcB, e_on2, e_on4, pure_bind, bind_assoc, asB, asI, e_isO, e_calm, e_both, e_cB1, e_cB2, e_cB3, e_cB4, e_endr, e_endn, if_true, if_false, Bool.false_eq_true, Bool.not_true, Bool.not_false, it_lst, it_tup, d_lenl, d_lent, List.length_map, ix_t0, ix_t1, ix_l0, ix_l1, c_tupl, c_tupt, asQ, qList, qLen, d_addi, d_sub, d_gt, d_lt, d_le, d_ge, PD.eq_int, PD.ne_int, PD.eq_str, PD.ne_str] at e
  rw [en]
  simp only [runS, seqF, b1, b2, aCons, aNil, mIf, mAnd, mOr, mNot, vAnd, vOr, vNot, mRet, mLst, mTwo, mSl, on1, lcB, e_on2, e_on4, pure_bind, bind_assoc, asB, asI, e_isO, e_calm, e_both, e_cB1, e_cB2, e_cB3, e_cB4, e_endr, e_endn, if_true, if_false, Bool.false_eq_true, Bool.not_true, Bool.not_false, it_lst, it_tup, d_lenl, d_lent, List.length_map, ix_t0, ix_t1, ix_l0, ix_l1, c_tupl, c_tupt, asQ, qList, qLen, d_addi, d_sub, d_gt, d_lt, d_le, d_ge, PD.eq_int, PD.ne_int, PD.eq_str, PD.ne_str]
  rw [← en]
  simp only [runS, seqF, b1, b2, aCons, aNil, mIf, mAnd, mOr, mNot, vAnd, vOr, vNot, mRet, mLst, mTwo, mSl, on1, lcB, e_on2, e_on4, pure_bind, bind_assoc, asB, asI, e_isO, e_calm, e_both, e_cB1, e_cB2, e_cB3, e_cB4, e_endr, e_endn, if_true, if_false, Bool.false_eq_true, Bool.not_true, Bool.not_false, it_lst, it_tup, d_lenl, d_lent, List.length_map, ix_t0, ix_t1, ix_l0, ix_l1, c_tupl, c_tupt, asQ, qList, qLen, d_addi, d_sub, d_gt, d_lt, d_le, d_ge, PD.eq_int, PD.ne_int, PD.eq_str, PD.ne_str, nfacts_eq, h2, e, f_any' gs (reachB fs a)]
noncomputable def freeB (b : Bd) (fs : Fs) (s : Str) : Bool := !(b.near s).any (reachB fs s)
noncomputable def bothB (b : Bd) (fs : Fs) (s t : Str) : Bool := if (s == t || adjS s t) = true then false else !(b.near t).any (reachB fs s) || !(b.near s).any (reachB fs t)
noncomputable def freesL (b : Bd) (fs : Fs) : List Str := b.sets.filter (freeB b fs)
noncomputable def twoB (b : Bd) (fs : Fs) : Bool := ((freesL b fs).flatMap fun s => (freesL b fs).map (bothB b fs s)).any id
theorem whole_of {b : Bd} (B : BdOk b) (fs : Fs) : ((pure (notesD b fs) : M D) >>= isO "Notes" fun d => calm (m_Notes_board [d])) = pure b.d := by
  have en : notesD b fs = .obj "Notes" (.tup [b.d, .tup (prsD fs)]) := rfl
  rw [pure_bind, en, e_isO, ← en, nboard_eq, e_calm]
theorem facts_of (b : Bd) (fs : Fs) : ((pure (notesD b fs) : M D) >>= isO "Notes" fun d => calm (m_Notes_facts [d])) = pure (.tup (prsD fs)) := by
  have en : notesD b fs = .obj "Notes" (.tup [b.d, .tup (prsD fs)]) := rfl
  rw [pure_bind, en, e_isO, ← en, nfacts_eq, e_calm]
theorem bwhole_of {b : Bd} (B : BdOk b) : ((pure b.d : M D) >>= isO "Board" fun d => calm (m_Board_whole [d])) = pure (.tup (strsD b.whole)) := by
  have en : b.d = .obj "Board" (.tup [.tup (b.sizes.map .int), .tup (strsD b.sets)]) := rfl
  rw [pure_bind, en, e_isO, ← en, B.whole, e_calm]
theorem bsets_of (b : Bd) : ((pure b.d : M D) >>= isO "Board" fun d => calm (m_Board_settings [d])) = pure (.tup (strsD b.sets)) := by
  have en : b.d = .obj "Board" (.tup [.tup (b.sizes.map .int), .tup (strsD b.sets)]) := rfl
  rw [pure_bind, en, e_isO, ← en, settings_eq, e_calm]
theorem both_eq {b : Bd} (B : BdOk b) {fs : Fs} (F : FsOk b fs) {s t : Str} (hs : s ∈ b.sets) (ht : t ∈ b.sets) : m_can_both [notesD b fs, .str s, .str t] = pure (.bl (bothB b fs s t)) := by
  have hsm := B.small
  have l1 := near_len b s
  have l2 := near_len b t
  unfold m_can_both bothB
  dsimp only
  rw [whole_of B, bwhole_of B]
  simp only [runS, seqF, b1, b2, aCons, aNil, mIf, mAnd, mOr, mNot, vAnd, vOr, vNot, mRet, mLst, mTwo, mSl, on1, lcB, e_on2, e_on4, pure_bind, bind_assoc, asB, asI, e_isO, e_calm, e_both, e_cB1, e_cB2, e_cB3, e_cB4, e_endr, e_endn, if_true, if_false, Bool.false_eq_true, Bool.not_true, Bool.not_false, it_lst, it_tup, d_lenl, d_lent, List.length_map, ix_t0, ix_t1, ix_l0, ix_l1, c_tupl, c_tupt, asQ, qList, qLen, d_addi, d_sub, d_gt, d_lt, d_le, d_ge, PD.eq_int, PD.ne_int, PD.eq_str, PD.ne_str, B.nei s hs t ht, B.beside s hs, B.beside t ht, some_eq b fs F.nd F.few s (b.near t) (by omega), some_eq b fs F.nd F.few t (b.near s) (by omega)]
  cases s == t <;> cases adjS s t <;> simp only [Bool.false_eq_true, if_false, if_true, pure_bind, Bool.or_self, Bool.or_true, Bool.true_or, Bool.or_false, Bool.false_or, e_endr] <;> first | rfl | (cases (b.near t).any (reachB fs s) <;> cases (b.near s).any (reachB fs t) <;> rfl)
theorem two_eq {b : Bd} (B : BdOk b) {fs : Fs} (F : FsOk b fs) : m_can_be_two [notesD b fs] = pure (.bl (twoB b fs)) := by
  have hsm := B.small
  have lf : (freesL b fs).length ≤ 48 := Nat.le_trans (List.length_filter_le ..) hsm
  have e1 : lcD (fun d => on1 (lcB (fun c3 => mNot (b1 asB ((aCons (pure (notesD b fs)) (aCons (pure c3) (aCons ((aCons (pure (D.tup (strsD b.whole))) (aCons (pure c3) aNil)) D (cB 2 m_beside_part fun ds _ => ds)) aNil))) D (cB 3 m_leads_to_some fun ds _ => ds)))) (fun c3 => pure c3)) d) (strsD b.sets) [] = pure (strsD (freesL b fs)) :=
    lc_filter (p := freeB b fs) (h := D.str) b.sets (fun s hs => by
      have l1 := near_len b s
      simp only [runS, seqF, b1, b2, aCons, aNil, mIf, mAnd, mOr, mNot, vAnd, vOr, vNot, mRet, mLst, mTwo, mSl, on1, lcB, e_on2, e_on4, pure_bind, bind_assoc, asB, asI, e_isO, e_calm, e_both, e_cB1, e_cB2, e_cB3, e_cB4, e_endr, e_endn, if_true, if_false, Bool.false_eq_true, Bool.not_true, Bool.not_false, it_lst, it_tup, d_lenl, d_lent, List.length_map, ix_t0, ix_t1, ix_l0, ix_l1, c_tupl, c_tupt, asQ, qList, qLen, d_addi, d_sub, d_gt, d_lt, d_le, d_ge, PD.eq_int, PD.ne_int, PD.eq_str, PD.ne_str, B.beside s hs, some_eq b fs F.nd F.few s (b.near s) (by omega)]
      unfold freeB
      cases (b.near s).any (reachB fs s) <;> rfl) (by omega)
  have e2 : lc2D on1 (fun c4 => pure true) (fun c4 => b1 items (pure (D.lst (strsD (freesL b fs))))) (fun c4 d => on1 (lcB (fun c5 => pure true) (fun c5 => (aCons (pure (notesD b fs)) (aCons (pure c4) (aCons (pure c5) aNil))) D (cB 3 m_can_both fun ds _ => ds))) d) (strsD (freesL b fs)) [] = pure ([] ++ (freesL b fs).flatMap fun s => (freesL b fs).map fun t => D.bl (bothB b fs s t)) :=
    lc2_map (es := fun _ => freesL b fs) (k := D.str) (h := fun s t => D.bl (bothB b fs s t)) (freesL b fs) [] (fun s hs => ⟨rfl, rfl, fun t ht => by
      simp only [runS, seqF, b1, b2, aCons, aNil, mIf, mAnd, mOr, mNot, vAnd, vOr, vNot, mRet, mLst, mTwo, mSl, on1, lcB, e_on2, e_on4, pure_bind, bind_assoc, asB, asI, e_isO, e_calm, e_both, e_cB1, e_cB2, e_cB3, e_cB4, e_endr, e_endn, if_true, if_false, Bool.false_eq_true, Bool.not_true, Bool.not_false, it_lst, it_tup, d_lenl, d_lent, List.length_map, ix_t0, ix_t1, ix_l0, ix_l1, c_tupl, c_tupt, asQ, qList, qLen, d_addi, d_sub, d_gt, d_lt, d_le, d_ge, PD.eq_int, PD.ne_int, PD.eq_str, PD.ne_str, both_eq B F (List.mem_filter.mp hs).1 (List.mem_filter.mp ht).1]⟩) (by
        have : ((freesL b fs).map fun _ => (freesL b fs).length).sum = (freesL b fs).length * (freesL b fs).length := by
          rw [List.map_const', List.sum_replicate_nat]
        rw [this, List.length_nil]
        have := Nat.mul_le_mul lf lf
        omega)
  have e3 : ((freesL b fs).flatMap fun s => (freesL b fs).map fun t => D.bl (bothB b fs s t)) = ((freesL b fs).flatMap fun s => (freesL b fs).map (bothB b fs s)).map D.bl := by
    rw [List.map_flatMap]
    congr 1
    funext s
    rw [List.map_map]
    rfl
  rw [List.nil_append, e3] at e2
  unfold m_can_be_two
  dsimp only
  rw [whole_of B, bwhole_of B, bsets_of]
  simp only [runS, seqF, b1, b2, aCons, aNil, mIf, mAnd, mOr, mNot, vAnd, vOr, vNot, mRet, mLst, mTwo, mSl, on1, lcB, e_on2, e_on4, pure_bind, bind_assoc, asB, asI, e_isO, e_calm, e_both, e_cB1, e_cB2, e_cB3, e_cB4, e_endr, e_endn, if_true, if_false, Bool.false_eq_true, Bool.not_true, Bool.not_false, it_lst, it_tup, d_lenl, d_lent, List.length_map, ix_t0, ix_t1, ix_l0, ix_l1, c_tupl, c_tupt, asQ, qList, qLen, d_addi, d_sub, d_gt, d_lt, d_le, d_ge, PD.eq_int, PD.ne_int, PD.eq_str, PD.ne_str] at e1 e2
  simp only [runS, seqF, b1, b2, aCons, aNil, mIf, mAnd, mOr, mNot, vAnd, vOr, vNot, mRet, mLst, mTwo, mSl, on1, lcB, e_on2, e_on4, pure_bind, bind_assoc, asB, asI, e_isO, e_calm, e_both, e_cB1, e_cB2, e_cB3, e_cB4, e_endr, e_endn, if_true, if_false, Bool.false_eq_true, Bool.not_true, Bool.not_false, it_lst, it_tup, d_lenl, d_lent, List.length_map, ix_t0, ix_t1, ix_l0, ix_l1, c_tupl, c_tupt, asQ, qList, qLen, d_addi, d_sub, d_gt, d_lt, d_le, d_ge, PD.eq_int, PD.ne_int, PD.eq_str, PD.ne_str, e1, e2, f_any]
  rfl
end G
namespace G
open PySem PySem.Spec L2 PD
open PyProof.Rows hiding St
theorem near_iff {b : Bd} {s t : Str} : t ∈ b.near s ↔ t ∈ b.sets ∧ adjS t s = true := List.mem_filter
theorem out_of {fs : Fs} {a c : Str} (r : Reach fs a c) : c = a ∨ ∃ d, (a, d) ∈ fs := by
  induction r with
  | refl => exact .inl rfl
  | @step b c r e ih =>
    rcases ih with rfl | h
    · exact .inr ⟨_, e⟩
    · exact .inr h
section
variable {b : Bd} (B : BdOk b) {fs : Fs} (F : FsOk b fs)
include B F
theorem free_iff {s : Str} (hs : s ∈ b.sets) : freeB b fs s = true ↔ ∀ c, (s, c) ∉ fs := by
  unfold freeB
  rw [Bool.not_eq_true', List.any_eq_false]
  constructor
  · intro h c hc
    have hm := F.mem _ hc
    exact h c (near_iff.mpr ⟨hm.2.1, by rw [B.sym c hm.2.1 s hs]; exact hm.2.2⟩) (reachB_iff.mpr (.step .refl hc))
  · intro h t ht r
    have hn := near_iff.mp ht
    rcases out_of (reachB_iff.mp r) with e | ⟨d, hd⟩
    · rw [e, B.irr s hs] at hn
      exact absurd hn.2 (by simp)
    · exact h d hd
theorem free_any {s t : Str} (hs : s ∈ b.sets) (ht : t ∈ b.sets) (h : freeB b fs s = true) (na : adjS s t = false) : (b.near t).any (reachB fs s) = false := by
  rw [List.any_eq_false]
  intro c hc r
  have hn := near_iff.mp hc
  rcases out_of (reachB_iff.mp r) with e | ⟨d, hd⟩
  · rw [e, na] at hn
    exact absurd hn.2 (by simp)
  · exact (free_iff B F hs).mp h d hd
theorem twoB_iff : twoB b fs = true ↔ ∃ s ∈ b.sets, ∃ t ∈ b.sets, s ≠ t ∧ adjS s t = false ∧ (∀ c, (s, c) ∉ fs) ∧ ∀ c, (t, c) ∉ fs := by
  unfold twoB
  rw [List.any_eq_true]
  constructor
  · rintro ⟨x, hx, e⟩
    have e : x = true := e
    subst e
    obtain ⟨s, hs, h⟩ := List.mem_flatMap.mp hx
    obtain ⟨t, ht, h⟩ := List.mem_map.mp h
    obtain ⟨hs1, hs2⟩ := List.mem_filter.mp hs
    obtain ⟨ht1, ht2⟩ := List.mem_filter.mp ht
    unfold bothB at h
    by_cases c : (s == t || adjS s t) = true
    · rw [if_pos c] at h
      cases h
    · rw [Bool.not_eq_true, Bool.or_eq_false_iff] at c
      exact ⟨s, hs1, t, ht1, by simpa using c.1, c.2, (free_iff B F hs1).mp hs2, (free_iff B F ht1).mp ht2⟩
  · rintro ⟨s, hs, t, ht, ne, na, fs1, ft1⟩
    have h1 := (free_iff B F hs).mpr fs1
    have h2 := (free_iff B F ht).mpr ft1
    refine ⟨true, List.mem_flatMap.mpr ⟨s, List.mem_filter.mpr ⟨hs, h1⟩, List.mem_map.mpr ⟨t, List.mem_filter.mpr ⟨ht, h2⟩, ?_⟩⟩, rfl⟩
    unfold bothB
    rw [if_neg (by rw [na]; simpa using ne), free_any B F hs ht h1 na]
    rfl
theorem tops_iff {l : List Str} {s : Str} : s ∈ topsL b l ↔ s ∈ b.sets ∧ ∀ t ∈ b.sets, adjS t s = true → l.idxOf t < l.idxOf s := by
  unfold topsL
  rw [List.mem_filter, List.all_eq_true]
  refine and_congr_right fun _ => ⟨fun h t ht ha => of_decide_eq_true (h t (near_iff.mpr ⟨ht, ha⟩)), fun h t ht => decide_eq_true ?_⟩
  have hn := near_iff.mp ht
  exact h t hn.1 hn.2
theorem tops_nodup (l : List Str) : (topsL b l).Nodup := B.nodup.filter _
theorem tops_pos {l : List Str} (p : l.Perm b.sets) : 0 < (topsL b l).length := by
  have hne : l ≠ [] := fun z => by
    subst z
    have := p.length_eq
    have := B.pos
    simp at *
    omega
  have e := List.dropLast_concat_getLast hne
  generalize l.dropLast = l' at e
  generalize l.getLast hne = x at e
  subst e
  have nd : (l' ++ [x]).Nodup := p.nodup_iff.mpr B.nodup
  rw [List.nodup_append] at nd
  have hx : x ∉ l' := fun z => nd.2.2 x z x (List.mem_singleton.mpr rfl) rfl
  have hxs : x ∈ b.sets := p.mem_iff.mp (by simp)
  refine List.length_pos_of_mem ((tops_iff B F).mpr ⟨hxs, fun t ht ha => ?_⟩)
  have hne2 : t ≠ x := fun z => by
    subst z
    rw [B.irr t ht] at ha
    cases ha
  have ht2 : t ∈ l' := by
    rcases List.mem_append.mp (p.mem_iff.mpr ht) with h | h
    · exact h
    · exact absurd (List.mem_singleton.mp h) hne2
  rw [idx_app_mem ht2, idx_app_not hx]
  have := List.idxOf_lt_length_of_mem ht2
  simp
  exact this
omit B F in
theorem two_of_len {l : List Str} (nd : l.Nodup) (h : 1 < l.length) : ∃ s ∈ l, ∃ t ∈ l, s ≠ t := by
  match l, nd, h with
  | s :: t :: r, nd, _ =>
    refine ⟨s, List.mem_cons_self .., t, by simp, fun z => ?_⟩
    rw [List.nodup_cons] at nd
    exact nd.1 (by rw [z]; simp)
omit B F in
theorem idx_cons (x a : Str) (l : List Str) : (x :: l).idxOf a = if x = a then 0 else l.idxOf a + 1 := by
  rw [List.idxOf_cons]
  by_cases h : x = a
  · rw [if_pos h, h]
    simp
  · rw [if_neg h]
    have : (x == a) = false := by simpa using h
    rw [this]
    rfl
omit B F in
theorem filter_idx (p : Str → Bool) {a c : Str} (ha : p a = true) (hc : p c = true) : ∀ l : List Str, l.idxOf a < l.idxOf c → (l.filter p).idxOf a < (l.filter p).idxOf c
  | [], h => by simp at h
  | x :: l, h => by
    rw [idx_cons, idx_cons] at h
    by_cases h1 : x = c
    · rw [if_pos h1] at h
      omega
    · rw [if_neg h1] at h
      by_cases h2 : x = a
      · rw [List.filter_cons, if_pos (by rw [h2]; exact ha), idx_cons, idx_cons, if_pos h2, if_neg h1]
        omega
      · rw [if_neg h2] at h
        have ih := filter_idx p ha hc l (by omega)
        rw [List.filter_cons]
        by_cases hp : p x = true
        · rw [if_pos hp, idx_cons, idx_cons, if_neg h2, if_neg h1]
          omega
        · rw [if_neg hp]
          exact ih
omit B in
theorem fitP_iff {l : List Str} (p : l.Perm b.sets) : FitP l fs ↔ fitB l fs = true := by
  unfold FitP fitB
  rw [List.all_eq_true]
  constructor
  · intro h f hf
    exact decide_eq_true (h f hf (p.mem_iff.mpr (F.mem f hf).2.1)).2
  · intro h f hf _
    exact ⟨p.mem_iff.mpr (F.mem f hf).1, of_decide_eq_true (h f hf)⟩
theorem line_mem {l : List Str} : l ∈ linesN b.sets fs b.sets.length ↔ l.Perm b.sets ∧ fitB l fs = true := by
  constructor
  · intro h
    obtain ⟨h1, h2, h3, h4⟩ := lines_sound _ _ h
    have p := perm_of_nodup h2 h3 B.nodup (by omega)
    exact ⟨p, (fitP_iff F p).mp h4⟩
  · rintro ⟨p, h⟩
    exact lines_complete _ _ p.length_eq (p.nodup_iff.mpr B.nodup) (fun x hx => p.mem_iff.mp hx) ((fitP_iff F p).mpr h)
theorem two_lines {line : List Str} (pl : line.Perm b.sets) (fit : fitB line fs = true) : twoB b fs = true ↔ ∃ l ∈ linesN b.sets fs b.sets.length, (topsL b l).length ≠ 1 := by
  rw [twoB_iff B F]
  constructor
  · rintro ⟨s, hs, t, ht, ne, na, fs1, ft1⟩
    let q : Str → Bool := fun x => !(x == s) && !(x == t)
    have hq : ∀ x, q x = true ↔ x ≠ s ∧ x ≠ t := fun x => by simp [q]
    let l' := line.filter q
    let l := l' ++ [s, t]
    have ndl : line.Nodup := pl.nodup_iff.mpr B.nodup
    have ns : s ∉ l' := fun h => ((hq s).mp (List.mem_filter.mp h).2).1 rfl
    have nt : t ∉ l' := fun h => ((hq t).mp (List.mem_filter.mp h).2).2 rfl
    have nd : l.Nodup := List.nodup_append.mpr ⟨ndl.filter _, by simp [ne], fun x hx y hy z => by
      subst z
      rcases List.mem_cons.mp hy with e | h
      · exact ns (e ▸ hx)
      · exact nt ((List.mem_singleton.mp h) ▸ hx)⟩
    have hall : ∀ x ∈ b.sets, x ∈ l := fun x hx => by
      by_cases h1 : x = s
      · rw [h1]; simp [l]
      · by_cases h2 : x = t
        · rw [h2]; simp [l]
        · exact List.mem_append_left _ (List.mem_filter.mpr ⟨pl.mem_iff.mpr hx, (hq x).mpr ⟨h1, h2⟩⟩)
    have hsub : ∀ x ∈ l, x ∈ b.sets := fun x hx => by
      rcases List.mem_append.mp hx with h | h
      · exact pl.mem_iff.mp (List.mem_filter.mp h).1
      · rcases List.mem_cons.mp h with e | h
        · rw [e]; exact hs
        · rw [List.mem_singleton.mp h]; exact ht
    have p : l.Perm b.sets := perm_of_nodup nd hsub B.nodup (nodup_le B.nodup hall)
    have is_ : l'.length ≤ l.idxOf s := by
      show _ ≤ (l' ++ [s, t]).idxOf s
      rw [idx_app_not ns]
      omega
    have it : l'.length ≤ l.idxOf t := by
      show _ ≤ (l' ++ [s, t]).idxOf t
      rw [idx_app_not nt]
      omega
    have il : ∀ x ∈ l', l.idxOf x < l'.length := fun x hx => by
      show (l' ++ [s, t]).idxOf x < _
      rw [idx_app_mem hx]
      exact List.idxOf_lt_length_of_mem hx
    have inl' : ∀ x ∈ b.sets, x ≠ s → x ≠ t → x ∈ l' := fun x hx h1 h2 => List.mem_filter.mpr ⟨pl.mem_iff.mpr hx, (hq x).mpr ⟨h1, h2⟩⟩
    have hfit : fitB l fs = true := by
      unfold fitB
      rw [List.all_eq_true]
      intro f hf
      refine decide_eq_true ?_
      have hm := F.mem f hf
      have n1 : f.1 ≠ s := fun z => fs1 f.2 (by rw [← z]; exact hf)
      have n2 : f.1 ≠ t := fun z => ft1 f.2 (by rw [← z]; exact hf)
      have m1 := inl' f.1 hm.1 n1 n2
      by_cases c1 : f.2 = s
      · rw [c1]; exact Nat.lt_of_lt_of_le (il _ m1) is_
      · by_cases c2 : f.2 = t
        · rw [c2]; exact Nat.lt_of_lt_of_le (il _ m1) it
        · have m2 := inl' f.2 hm.2.1 c1 c2
          show (l' ++ [s, t]).idxOf f.1 < (l' ++ [s, t]).idxOf f.2
          rw [idx_app_mem m1, idx_app_mem m2]
          exact filter_idx q ((hq _).mpr ⟨n1, n2⟩) ((hq _).mpr ⟨c1, c2⟩) line (fitB_of fit hf)
    refine ⟨l, (line_mem B F).mpr ⟨p, hfit⟩, fun h1 => ?_⟩
    have ts : s ∈ topsL b l := (tops_iff B F).mpr ⟨hs, fun x hx ha => by
      have e1 : x ≠ s := fun z => by rw [z, B.irr s hs] at ha; cases ha
      have e2 : x ≠ t := fun z => by rw [z, B.sym t ht s hs, na] at ha; cases ha
      exact Nat.lt_of_lt_of_le (il _ (inl' x hx e1 e2)) is_⟩
    have tt : t ∈ topsL b l := (tops_iff B F).mpr ⟨ht, fun x hx ha => by
      have e1 : x ≠ t := fun z => by rw [z, B.irr t ht] at ha; cases ha
      have e2 : x ≠ s := fun z => by rw [z, na] at ha; cases ha
      exact Nat.lt_of_lt_of_le (il _ (inl' x hx e2 e1)) it⟩
    match e : topsL b l, h1 with
    | [x], _ =>
      rw [e] at ts tt
      exact ne ((List.mem_singleton.mp ts).trans (List.mem_singleton.mp tt).symm)
  · rintro ⟨l, hl, h1⟩
    obtain ⟨p, hfit⟩ := (line_mem B F).mp hl
    have := tops_pos B F p
    obtain ⟨s, hs, t, ht, ne⟩ := two_of_len (tops_nodup B F l) (by omega)
    obtain ⟨s1, s2⟩ := (tops_iff B F).mp hs
    obtain ⟨t1, t2⟩ := (tops_iff B F).mp ht
    have out : ∀ x, x ∈ b.sets → (∀ y ∈ b.sets, adjS y x = true → l.idxOf y < l.idxOf x) → ∀ c, (x, c) ∉ fs := fun x hx h c hc => by
      have hm := F.mem _ hc
      have i1 := h c hm.2.1 (by rw [B.sym c hm.2.1 x hx]; exact hm.2.2)
      have i2 := fitB_of hfit hc
      omega
    refine ⟨s, s1, t, t1, ne, ?_, out s s1 s2, out t t1 t2⟩
    by_cases c : adjS s t = true
    · have i1 := t2 s s1 c
      have i2 := s2 t t1 (by rw [B.sym t t1 s s1]; exact c)
      omega
    · simpa using c
end
end G
namespace G
open PySem PySem.Spec L2 PD
open PyProof.Rows hiding St
structure LBd (b : Bd) : Prop where
  apart : ∀ s ∈ b.sets, ∀ t ∈ b.sets, m__law_apart [.str s, .str t] = pure (.int (apartN s t : Nat))
  spread : m__law_spread [.str b.text] = pure (.lst (strsD b.sets))
theorem apart_one (s t : Str) : decide (((apartN s t : Nat) : Int) = 1) = adjS s t := by
  unfold adjS
  rw [Bool.eq_iff_iff, decide_eq_true_eq, beq_iff_eq]
  omega
section
variable {b : Bd} (B : BdOk b) (LB : LBd b)
include B LB
theorem lnear_eq {s : Str} (hs : s ∈ b.sets) : m__law_near [.lst (strsD b.sets), .str s] = pure (.lst (strsD (b.near s))) := by
  have hsm := B.small
  have e : lcD (fun d => on1 (lcB (fun c1 => b1 asB (b2 dEq ((aCons (pure c1) (aCons (pure (D.str s)) aNil)) D (cB 2 m__law_apart fun ds _ => ds)) (pure (D.int 1)))) (fun c1 => pure c1)) d) (strsD b.sets) [] = pure (strsD (b.near s)) :=
    lc_filter (p := fun t => adjS t s) (h := D.str) b.sets (fun t ht => by
      simp only [runS, seqF, b1, b2, aCons, aNil, mIf, mAnd, mOr, mNot, vAnd, vOr, vNot, mRet, mLst, mTwo, mSl, on1, lcB, e_on2, e_on4, pure_bind, bind_assoc, asB, asI, e_isO, e_calm, e_both, e_cB1, e_cB2, e_cB3, e_cB4, e_endr, e_endn, if_true, if_false, Bool.false_eq_true, Bool.not_true, Bool.not_false, it_lst, it_tup, d_lenl, d_lent, List.length_map, ix_t0, ix_t1, ix_l0, ix_l1, c_tupl, c_tupt, asQ, qList, qLen, d_addi, d_sub, d_gt, d_lt, d_le, d_ge, PD.eq_int, PD.ne_int, PD.eq_str, PD.ne_str, LB.apart t ht s hs, apart_one]
      cases adjS t s <;> rfl) (by omega)
  unfold m__law_near
  simp only [runS, seqF, b1, b2, aCons, aNil, mIf, mAnd, mOr, mNot, vAnd, vOr, vNot, mRet, mLst, mTwo, mSl, on1, lcB, e_on2, e_on4, pure_bind, bind_assoc, asB, asI, e_isO, e_calm, e_both, e_cB1, e_cB2, e_cB3, e_cB4, e_endr, e_endn, if_true, if_false, Bool.false_eq_true, Bool.not_true, Bool.not_false, it_lst, it_tup, d_lenl, d_lent, List.length_map, ix_t0, ix_t1, ix_l0, ix_l1, c_tupl, c_tupt, asQ, qList, qLen, d_addi, d_sub, d_gt, d_lt, d_le, d_ge, PD.eq_int, PD.ne_int, PD.eq_str, PD.ne_str] at e
  simp only [runS, seqF, b1, b2, aCons, aNil, mIf, mAnd, mOr, mNot, vAnd, vOr, vNot, mRet, mLst, mTwo, mSl, on1, lcB, e_on2, e_on4, pure_bind, bind_assoc, asB, asI, e_isO, e_calm, e_both, e_cB1, e_cB2, e_cB3, e_cB4, e_endr, e_endn, if_true, if_false, Bool.false_eq_true, Bool.not_true, Bool.not_false, it_lst, it_tup, d_lenl, d_lent, List.length_map, ix_t0, ix_t1, ix_l0, ix_l1, c_tupl, c_tupt, asQ, qList, qLen, d_addi, d_sub, d_gt, d_lt, d_le, d_ge, PD.eq_int, PD.ne_int, PD.eq_str, PD.ne_str, e]
theorem ltops_eq {ys : List Str} {o : D} (ho : ∀ k, k ∈ ys → ((pure o : M D) >>= kIndex (pure (.str k))) = pure (.int (ys.idxOf k : Nat))) (hm : ∀ s ∈ b.sets, s ∈ ys) : m__law_tops [o, .lst (strsD b.sets)] = pure (.lst (strsD (topsL b ys))) := by
  have hs := B.small
  have key : forD (S := List D) (fun s2 d => on1 (fun c3 => mIf (b1 asB (aCons (mLst ((b1 items ((aCons (pure (D.lst (strsD b.sets))) (aCons (pure c3) aNil)) D (cB 2 m__law_near fun ds _ => ds))) >>= fun ds => lcD (fun d => on1 (lcB (fun c4 => pure true) (fun c4 => b2 dLt ((pure o) >>= kIndex (pure c4)) ((pure o) >>= kIndex (pure c3)))) d) ds [])) aNil D fAll)) (mApp (pure c3) s2 fun v5 => pure (.nx (s2 ++ [v5]))) (pure (.nx s2))) d) (strsD b.sets) [] = pure (.nx ([] ++ strsD (topsL b ys))) :=
    for_filter b.sets [] (by rw [List.length_nil]; omega) fun s hs' acc ha => by
      have e : lcD (fun d => on1 (lcB (fun c4 => pure true) (fun c4 => b2 dLt ((pure o) >>= kIndex (pure c4)) ((pure o) >>= kIndex (pure (.str s))))) d) (strsD (b.near s)) [] = pure ((b.near s).map fun t => D.bl (decide (ys.idxOf t < ys.idxOf s))) :=
        lc_map (h := fun t => D.bl (decide (ys.idxOf t < ys.idxOf s))) (b.near s) (fun t ht => by
          have h1 := ho t (hm t (near_mem ht).1)
          have h2 := ho s (hm s hs')
          rw [pure_bind] at h1 h2
          simp only [runS, seqF, b1, b2, aCons, aNil, mIf, mAnd, mOr, mNot, vAnd, vOr, vNot, mRet, mLst, mTwo, mSl, on1, lcB, e_on2, e_on4, pure_bind, bind_assoc, asB, asI, e_isO, e_calm, e_both, e_cB1, e_cB2, e_cB3, e_cB4, e_endr, e_endn, if_true, if_false, Bool.false_eq_true, Bool.not_true, Bool.not_false, it_lst, it_tup, d_lenl, d_lent, List.length_map, ix_t0, ix_t1, ix_l0, ix_l1, c_tupl, c_tupt, asQ, qList, qLen, d_addi, d_sub, d_gt, d_lt, d_le, d_ge, PD.eq_int, PD.ne_int, PD.eq_str, PD.ne_str, h1, h2]
          congr 3
          simp) (by have := near_len b s; omega)
      simp only [runS, seqF, b1, b2, aCons, aNil, mIf, mAnd, mOr, mNot, vAnd, vOr, vNot, mRet, mLst, mTwo, mSl, on1, lcB, e_on2, e_on4, pure_bind, bind_assoc, asB, asI, e_isO, e_calm, e_both, e_cB1, e_cB2, e_cB3, e_cB4, e_endr, e_endn, if_true, if_false, Bool.false_eq_true, Bool.not_true, Bool.not_false, it_lst, it_tup, d_lenl, d_lent, List.length_map, ix_t0, ix_t1, ix_l0, ix_l1, c_tupl, c_tupt, asQ, qList, qLen, d_addi, d_sub, d_gt, d_lt, d_le, d_ge, PD.eq_int, PD.ne_int, PD.eq_str, PD.ne_str] at e
      simp only [runS, seqF, b1, b2, aCons, aNil, mIf, mAnd, mOr, mNot, vAnd, vOr, vNot, mRet, mLst, mTwo, mSl, on1, lcB, e_on2, e_on4, pure_bind, bind_assoc, asB, asI, e_isO, e_calm, e_both, e_cB1, e_cB2, e_cB3, e_cB4, e_endr, e_endn, if_true, if_false, Bool.false_eq_true, Bool.not_true, Bool.not_false, it_lst, it_tup, d_lenl, d_lent, List.length_map, ix_t0, ix_t1, ix_l0, ix_l1, c_tupl, c_tupt, asQ, qList, qLen, d_addi, d_sub, d_gt, d_lt, d_le, d_ge, PD.eq_int, PD.ne_int, PD.eq_str, PD.ne_str, lnear_eq B LB hs', e, f_all' (b.near s) fun t => decide (ys.idxOf t < ys.idxOf s), mApp, if_pos (lt_line (show acc.length ≤ 1000000 by omega))]
      cases (b.near s).all fun t => decide (ys.idxOf t < ys.idxOf s) <;> rfl
  unfold m__law_tops
  simp only [runS, seqF, b1, b2, aCons, aNil, mIf, mAnd, mOr, mNot, vAnd, vOr, vNot, mRet, mLst, mTwo, mSl, on1, lcB, e_on2, e_on4, pure_bind, bind_assoc, asB, asI, e_isO, e_calm, e_both, e_cB1, e_cB2, e_cB3, e_cB4, e_endr, e_endn, if_true, if_false, Bool.false_eq_true, Bool.not_true, Bool.not_false, it_lst, it_tup, d_lenl, d_lent, List.length_map, ix_t0, ix_t1, ix_l0, ix_l1, c_tupl, c_tupt, asQ, qList, qLen, d_addi, d_sub, d_gt, d_lt, d_le, d_ge, PD.eq_int, PD.ne_int, PD.eq_str, PD.ne_str] at key
  simp only [runS, seqF, b1, b2, aCons, aNil, mIf, mAnd, mOr, mNot, vAnd, vOr, vNot, mRet, mLst, mTwo, mSl, on1, lcB, e_on2, e_on4, pure_bind, bind_assoc, asB, asI, e_isO, e_calm, e_both, e_cB1, e_cB2, e_cB3, e_cB4, e_endr, e_endn, if_true, if_false, Bool.false_eq_true, Bool.not_true, Bool.not_false, it_lst, it_tup, d_lenl, d_lent, List.length_map, ix_t0, ix_t1, ix_l0, ix_l1, c_tupl, c_tupt, asQ, qList, qLen, d_addi, d_sub, d_gt, d_lt, d_le, d_ge, PD.eq_int, PD.ne_int, PD.eq_str, PD.ne_str, n_lst [] (by show 0 ≤ 16777216; decide), key]
  rfl
end
theorem lfits_eq {ys : List Str} {fs : Fs} (h : ∀ f ∈ fs, f.1 ∈ ys ∧ f.2 ∈ ys) (hl : fs.length ≤ 190) (hy : ys.length ≤ 1000) : m__law_fits [.tup (strsD ys), .tup (prsD fs)] = pure (.bl (fitB ys fs)) := by
  have e : lcD (fun d => on2 (lcB (fun c1 => pure true) (fun c1 => b2 dLt ((pure (D.tup (strsD ys))) >>= kIndex (pure c1.1)) ((pure (D.tup (strsD ys))) >>= kIndex (pure c1.2)))) d) (prsD fs) [] = pure (fs.map fun f => D.bl (decide (ys.idxOf f.1 < ys.idxOf f.2))) :=
    lc_map (h := fun f => D.bl (decide (ys.idxOf f.1 < ys.idxOf f.2))) fs (fun f hf => by
      simp only [runS, seqF, b1, b2, aCons, aNil, mIf, mAnd, mOr, mNot, vAnd, vOr, vNot, mRet, mLst, mTwo, mSl, on1, lcB, e_on2, e_on4, pure_bind, bind_assoc, asB, asI, e_isO, e_calm, e_both, e_cB1, e_cB2, e_cB3, e_cB4, e_endr, e_endn, if_true, if_false, Bool.false_eq_true, Bool.not_true, Bool.not_false, it_lst, it_tup, d_lenl, d_lent, List.length_map, ix_t0, ix_t1, ix_l0, ix_l1, c_tupl, c_tupt, asQ, qList, qLen, d_addi, d_sub, d_gt, d_lt, d_le, d_ge, PD.eq_int, PD.ne_int, PD.eq_str, PD.ne_str, idx_tup ys f.1 (h f hf).1 (by omega), idx_tup ys f.2 (h f hf).2 (by omega)]
      congr 3
      simp) (by omega)
  unfold m__law_fits
  simp only [runS, seqF, b1, b2, aCons, aNil, mIf, mAnd, mOr, mNot, vAnd, vOr, vNot, mRet, mLst, mTwo, mSl, on1, lcB, e_on2, e_on4, pure_bind, bind_assoc, asB, asI, e_isO, e_calm, e_both, e_cB1, e_cB2, e_cB3, e_cB4, e_endr, e_endn, if_true, if_false, Bool.false_eq_true, Bool.not_true, Bool.not_false, it_lst, it_tup, d_lenl, d_lent, List.length_map, ix_t0, ix_t1, ix_l0, ix_l1, c_tupl, c_tupt, asQ, qList, qLen, d_addi, d_sub, d_gt, d_lt, d_le, d_ge, PD.eq_int, PD.ne_int, PD.eq_str, PD.ne_str] at e
  simp only [runS, seqF, b1, b2, aCons, aNil, mIf, mAnd, mOr, mNot, vAnd, vOr, vNot, mRet, mLst, mTwo, mSl, on1, lcB, e_on2, e_on4, pure_bind, bind_assoc, asB, asI, e_isO, e_calm, e_both, e_cB1, e_cB2, e_cB3, e_cB4, e_endr, e_endn, if_true, if_false, Bool.false_eq_true, Bool.not_true, Bool.not_false, it_lst, it_tup, d_lenl, d_lent, List.length_map, ix_t0, ix_t1, ix_l0, ix_l1, c_tupl, c_tupt, asQ, qList, qLen, d_addi, d_sub, d_gt, d_lt, d_le, d_ge, PD.eq_int, PD.ne_int, PD.eq_str, PD.ne_str, e, f_all' fs fun f => decide (ys.idxOf f.1 < ys.idxOf f.2)]
  rfl
def hasS (xs : List D) (s : Str) : Bool := D.isIn (.str s) xs
theorem isIn_of {xs : List D} {s : Str} : hasS xs s = true ↔ D.str s ∈ xs := by
  unfold hasS D.isIn
  rw [List.any_eq_true]
  constructor
  · rintro ⟨y, hy, e⟩
    have : y = .str s := by
      cases y with
      | str t =>
        have e2 : (t == s) = true := e
        rw [eq_of_beq e2]
      | _ => cases e
    rw [← this]
    exact hy
  · intro h
    exact ⟨_, h, by show (s == s) = true; exact beq_self_eq_true s⟩
theorem mix_any {xs : List D} (s : Str) : ((pyAll xs).all fun y => SeqAt.mixOk y (.str s)) = true := by
  induction xs with
  | nil => rfl
  | cons x xs ih =>
    show (SeqAt.mixOk x.py (.str s) && (pyAll xs).all fun y => SeqAt.mixOk y (.str s)) = true
    rw [ih, Bool.and_true]
    cases x.py <;> rfl
theorem in_any {xs : List D} (hd : datAll xs = true) (s : Str) : dIn (.str s) (.tup xs) = pure (.bl (hasS xs s)) := by
  show inSeq false (.str s) xs = _
  unfold inSeq
  rw [if_pos]
  · rfl
  · unfold okIn
    rw [hd]
    show (true && true && ((pyAll xs).all fun y => SeqAt.mixOk y (.str s)) && true) = true
    rw [mix_any]
    rfl
def lineB (sets : List Str) (xs : List D) : Bool := decide (xs.length = sets.length) && sets.all (hasS xs)
theorem isline_eq {sets : List Str} (hs : sets.length ≤ 100) {xs : List D} (hd : datAll xs = true) : m__law_is_line [.lst (strsD sets), .tup xs] = pure (.bl (lineB sets xs)) := by
  have e0 : isiD (tblT "tuple" []) (.tup xs) = pure (.bl true) := rfl
  have e : lcD (fun d => on1 (lcB (fun c1 => pure true) (fun c1 => b2 dIn (pure c1) (pure (D.tup xs)))) d) (strsD sets) [] = pure (sets.map fun s => D.bl (hasS xs s)) :=
    lc_map (h := fun s => D.bl (hasS xs s)) sets (fun s _ => by
      simp only [runS, seqF, b1, b2, aCons, aNil, mIf, mAnd, mOr, mNot, vAnd, vOr, vNot, mRet, mLst, mTwo, mSl, on1, lcB, e_on2, e_on4, pure_bind, bind_assoc, asB, asI, e_isO, e_calm, e_both, e_cB1, e_cB2, e_cB3, e_cB4, e_endr, e_endn, if_true, if_false, Bool.false_eq_true, Bool.not_true, Bool.not_false, it_lst, it_tup, d_lenl, d_lent, List.length_map, ix_t0, ix_t1, ix_l0, ix_l1, c_tupl, c_tupt, asQ, qList, qLen, d_addi, d_sub, d_gt, d_lt, d_le, d_ge, PD.eq_int, PD.ne_int, PD.eq_str, PD.ne_str, in_any hd s]) (by omega)
  unfold m__law_is_line lineB
  simp only [runS, seqF, b1, b2, aCons, aNil, mIf, mAnd, mOr, mNot, vAnd, vOr, vNot, mRet, mLst, mTwo, mSl, on1, lcB, e_on2, e_on4, pure_bind, bind_assoc, asB, asI, e_isO, e_calm, e_both, e_cB1, e_cB2, e_cB3, e_cB4, e_endr, e_endn, if_true, if_false, Bool.false_eq_true, Bool.not_true, Bool.not_false, it_lst, it_tup, d_lenl, d_lent, List.length_map, ix_t0, ix_t1, ix_l0, ix_l1, c_tupl, c_tupt, asQ, qList, qLen, d_addi, d_sub, d_gt, d_lt, d_le, d_ge, PD.eq_int, PD.ne_int, PD.eq_str, PD.ne_str] at e
  simp only [runS, seqF, b1, b2, aCons, aNil, mIf, mAnd, mOr, mNot, vAnd, vOr, vNot, mRet, mLst, mTwo, mSl, on1, lcB, e_on2, e_on4, pure_bind, bind_assoc, asB, asI, e_isO, e_calm, e_both, e_cB1, e_cB2, e_cB3, e_cB4, e_endr, e_endn, if_true, if_false, Bool.false_eq_true, Bool.not_true, Bool.not_false, it_lst, it_tup, d_lenl, d_lent, List.length_map, ix_t0, ix_t1, ix_l0, ix_l1, c_tupl, c_tupt, asQ, qList, qLen, d_addi, d_sub, d_gt, d_lt, d_le, d_ge, PD.eq_int, PD.ne_int, PD.eq_str, PD.ne_str, e0, e, f_all' sets (hasS xs)]
  have : decide (((xs.length : Nat) : Int) = (sets.length : Nat)) = decide (xs.length = sets.length) := by
    rw [Bool.eq_iff_iff, decide_eq_true_eq, decide_eq_true_eq]
    omega
  rw [this]
  cases decide (xs.length = sets.length) <;> rfl
theorem isline_no {sets : List Str} {x : D} (h : isiD (tblT "tuple" []) x = pure (.bl false)) : m__law_is_line [.lst (strsD sets), x] = pure (.bl false) := by
  unfold m__law_is_line
  simp only [runS, seqF, b1, b2, aCons, aNil, mIf, mAnd, mOr, mNot, vAnd, vOr, vNot, mRet, mLst, mTwo, mSl, on1, lcB, e_on2, e_on4, pure_bind, bind_assoc, asB, asI, e_isO, e_calm, e_both, e_cB1, e_cB2, e_cB3, e_cB4, e_endr, e_endn, if_true, if_false, Bool.false_eq_true, Bool.not_true, Bool.not_false, it_lst, it_tup, d_lenl, d_lent, List.length_map, ix_t0, ix_t1, ix_l0, ix_l1, c_tupl, c_tupt, asQ, qList, qLen, d_addi, d_sub, d_gt, d_lt, d_le, d_ge, PD.eq_int, PD.ne_int, PD.eq_str, PD.ne_str, h]
theorem line_good {sets : List Str} (nd : sets.Nodup) {xs : List D} : lineB sets xs = true ↔ ∃ ys, xs = strsD ys ∧ ys.Perm sets := by
  unfold lineB
  rw [Bool.and_eq_true, decide_eq_true_eq, List.all_eq_true]
  constructor
  · rintro ⟨h1, h2⟩
    exact strs_cover sets xs nd h1 fun s hs => isIn_of.mp (h2 s hs)
  · rintro ⟨ys, rfl, p⟩
    exact ⟨by rw [List.length_map, p.length_eq], fun s hs => isIn_of.mpr (List.mem_map.mpr ⟨s, p.mem_iff.mpr hs, rfl⟩)⟩
theorem ord_iff {sets : List Str} : ∀ (xs : List D) (seen : List Str), ordB sets seen xs = true ↔ ∃ ys, xs = strsD ys ∧ ys.Nodup ∧ ∀ y ∈ ys, y ∈ sets ∧ y ∉ seen
  | [], seen => by
    unfold ordB
    exact ⟨fun _ => ⟨[], rfl, List.nodup_nil, fun _ h => (by cases h)⟩, fun _ => rfl⟩
  | x :: xs, seen => by
    cases x with
    | str s =>
      have e : ordB sets seen (.str s :: xs) = (sets.contains s && !seen.contains s && ordB sets (seen ++ [s]) xs) := by rw [ordB]
      rw [e, Bool.and_eq_true, Bool.and_eq_true, ord_iff xs (seen ++ [s])]
      constructor
      · rintro ⟨⟨h1, h2⟩, ys, rfl, nd, h⟩
        refine ⟨s :: ys, rfl, List.nodup_cons.mpr ⟨fun z => (h s z).2 (by simp), nd⟩, fun y hy => ?_⟩
        rcases List.mem_cons.mp hy with rfl | hy
        · exact ⟨by simpa using h1, by simpa using h2⟩
        · exact ⟨(h y hy).1, fun z => (h y hy).2 (List.mem_append_left _ z)⟩
      · rintro ⟨ys, e, nd, h⟩
        cases ys with
        | nil => cases e
        | cons y ys =>
          injection e with e1 e2
          injection e1 with e1
          subst e1
          rw [List.nodup_cons] at nd
          have hs := h s (List.mem_cons_self ..)
          refine ⟨⟨by simpa using hs.1, by simpa using hs.2⟩, ys, e2, nd.2, fun z hz => ⟨(h z (List.mem_cons_of_mem _ hz)).1, fun q => ?_⟩⟩
          rcases List.mem_append.mp q with q | q
          · exact (h z (List.mem_cons_of_mem _ hz)).2 q
          · exact nd.1 (List.mem_singleton.mp q ▸ hz)
    | _ =>
      constructor
      · intro h
        simp [ordB] at h
      · rintro ⟨ys, e, _⟩
        cases ys <;> cases e
theorem isOrd_iff {b : Bd} (B : BdOk b) {xs : List D} : isOrd b (.tup xs) = true ↔ ∃ ys, xs = strsD ys ∧ ys.Perm b.sets := by
  show (ordB b.sets [] xs && decide (b.sets.length ≤ xs.length)) = true ↔ _
  rw [Bool.and_eq_true, decide_eq_true_eq, ord_iff]
  constructor
  · rintro ⟨⟨ys, rfl, nd, h⟩, hl⟩
    rw [List.length_map] at hl
    exact ⟨ys, rfl, perm_of_nodup nd (fun y hy => (h y hy).1) B.nodup hl⟩
  · rintro ⟨ys, rfl, p⟩
    exact ⟨⟨ys, rfl, p.nodup_iff.mpr B.nodup, fun y hy => ⟨p.mem_iff.mp hy, by simp⟩⟩, by rw [List.length_map, p.length_eq]; exact Nat.le_refl _⟩
theorem line_ord {b : Bd} (B : BdOk b) (xs : List D) : lineB b.sets xs = isOrd b (.tup xs) := by
  rw [Bool.eq_iff_iff, line_good B.nodup, isOrd_iff B]
end G
namespace G
open PySem PySem.Spec L2 PD
open PyProof.Rows hiding St
theorem e_kjoin (me : M D) (a : Str) : kJoin me (.str a) = me >>= dJoin a := rfl
theorem d_join (a : Str) (xs : List Str) (h : (xs.map (·.length)).sum + xs.length * a.length ≤ 1000000) : dJoin a (.lst (strsD xs)) = pure (.str (Txt.join a xs)) := by
  show (match strsOf (strsD xs) with
    | some ys => if (ys.map (·.length)).sum + ys.length * a.length ≤ 16777216 then pure (.str (Txt.join a ys)) else stuck
    | none => stuck : M D) = _
  rw [strsOf_map]
  exact if_pos (by omega)
theorem sheet_eq {b : Bd} (B : BdOk b) {fs : Fs} (F : FsOk b fs) : m__law_sheet [.str b.text, .tup (prsD fs)] = pure (.str (sheetS b.text fs)) := by
  have ht : Short b.text := B.tsigns
  have hs := F.short B
  have hf := F.few
  have hb : ("board " : Str).length + b.text.length ≤ sizeLine := by
    have e : ("board " : Str).length = 6 := by decide +kernel
    have := ht.2.2
    rw [e]
    exact len_line (by omega)
  have e : lcD (fun d => on2 (lcB (fun c1 => pure true) (fun c1 => b2 dAdd (b2 dAdd (pure c1.1) (pure (D.str (" < " : Str)))) (pure c1.2))) d) (prsD fs) [] = pure (strsD (fs.map lineS)) := by
    have : strsD (fs.map lineS) = fs.map fun f => D.str (lineS f) := List.map_map
    rw [this]
    refine lc_map (h := fun f => D.str (lineS f)) fs (fun f hf => ?_) (by omega)
    have h1 := (hs f hf).1.2.2
    have h2 := (hs f hf).2.2.2
    have e3 : (" < " : Str).length = 3 := by decide +kernel
    have l1 : f.1.length + (" < " : Str).length ≤ sizeLine := by rw [e3]; exact len_line (by omega)
    have l2 : (f.1 ++ (" < " : Str)).length + f.2.length ≤ sizeLine := by
      rw [TL.len_tl, TL.tl_append, List.length_append, ← TL.len_tl, ← TL.len_tl, e3]
      exact len_line (by omega)
    simp only [runS, seqF, b1, b2, aCons, aNil, mIf, mAnd, mOr, mNot, vAnd, vOr, vNot, mRet, mLst, mTwo, mSl, on1, lcB, e_on2, e_on4, pure_bind, bind_assoc, asB, asI, e_isO, e_calm, e_both, e_cB1, e_cB2, e_cB3, e_cB4, e_endr, e_endn, if_true, if_false, Bool.false_eq_true, Bool.not_true, Bool.not_false, it_lst, it_tup, d_lenl, d_lent, List.length_map, ix_t0, ix_t1, ix_l0, ix_l1, c_tupl, c_tupt, asQ, qList, qLen, d_addi, d_sub, d_gt, d_lt, d_le, d_ge, PD.eq_int, PD.ne_int, PD.eq_str, PD.ne_str, d_adds _ _ l1, d_adds _ _ l2]
    rfl
  have hj := sum_linesS b.text fs ht hs
  have e2 : dAdd (.lst [.str (headS b.text)]) (.lst (strsD (fs.map lineS))) = pure (.lst (strsD (linesS b.text fs))) :=
    d_addl _ _ (by rw [List.length_singleton, List.length_map, List.length_map]; exact len_line (by omega))
  unfold m__law_sheet
  simp only [runS, seqF, b1, b2, aCons, aNil, mIf, mAnd, mOr, mNot, vAnd, vOr, vNot, mRet, mLst, mTwo, mSl, on1, lcB, e_on2, e_on4, pure_bind, bind_assoc, asB, asI, e_isO, e_calm, e_both, e_cB1, e_cB2, e_cB3, e_cB4, e_endr, e_endn, if_true, if_false, Bool.false_eq_true, Bool.not_true, Bool.not_false, it_lst, it_tup, d_lenl, d_lent, List.length_map, ix_t0, ix_t1, ix_l0, ix_l1, c_tupl, c_tupt, asQ, qList, qLen, d_addi, d_sub, d_gt, d_lt, d_le, d_ge, PD.eq_int, PD.ne_int, PD.eq_str, PD.ne_str] at e
  simp only [runS, seqF, b1, b2, aCons, aNil, mIf, mAnd, mOr, mNot, vAnd, vOr, vNot, mRet, mLst, mTwo, mSl, on1, lcB, e_on2, e_on4, pure_bind, bind_assoc, asB, asI, e_isO, e_calm, e_both, e_cB1, e_cB2, e_cB3, e_cB4, e_endr, e_endn, if_true, if_false, Bool.false_eq_true, Bool.not_true, Bool.not_false, it_lst, it_tup, d_lenl, d_lent, List.length_map, ix_t0, ix_t1, ix_l0, ix_l1, c_tupl, c_tupt, asQ, qList, qLen, d_addi, d_sub, d_gt, d_lt, d_le, d_ge, PD.eq_int, PD.ne_int, PD.eq_str, PD.ne_str, e_kjoin, d_adds _ _ hb, d_lst [D.str (("board " : Str) ++ b.text)] (by show 1 ≤ 16777216; decide), e]
  rw [show (("board " : Str) ++ b.text) = headS b.text from rfl, e2, pure_bind, d_join _ _ (by omega)]
  simp only [runS, seqF, b1, b2, aCons, aNil, mIf, mAnd, mOr, mNot, vAnd, vOr, vNot, mRet, mLst, mTwo, mSl, on1, lcB, e_on2, e_on4, pure_bind, bind_assoc, asB, asI, e_isO, e_calm, e_both, e_cB1, e_cB2, e_cB3, e_cB4, e_endr, e_endn, if_true, if_false, Bool.false_eq_true, Bool.not_true, Bool.not_false, it_lst, it_tup, d_lenl, d_lent, List.length_map, ix_t0, ix_t1, ix_l0, ix_l1, c_tupl, c_tupt, asQ, qList, qLen, d_addi, d_sub, d_gt, d_lt, d_le, d_ge, PD.eq_int, PD.ne_int, PD.eq_str, PD.ne_str]
  rfl
theorem for_flat {α : Type} {b : List D → D → M (Fl (List D))} {f : α → D} {L : α → List D} : ∀ (xs : List α) (acc : List D) (K : Nat), acc.length + (xs.map fun x => (L x).length).sum ≤ K → (∀ x ∈ xs, ∀ acc : List D, acc.length + (L x).length ≤ K → b acc (f x) = pure (.nx (acc ++ L x))) → forD b (xs.map f) acc = pure (.nx (acc ++ xs.flatMap L))
  | [], acc, K, _, _ => by
    rw [List.flatMap_nil, List.append_nil]
    rfl
  | x :: xs, acc, K, h, hb => by
    rw [List.map_cons, List.sum_cons] at h
    rw [List.map_cons, forD_nx, hb x (List.mem_cons_self ..) acc (by omega), pure_bind, List.flatMap_cons, ← List.append_assoc]
    exact for_flat xs (acc ++ L x) K (by rw [List.length_append]; omega) fun y hy => hb y (List.mem_cons_of_mem _ hy)
theorem for_filterH {α : Type} {b : List D → D → M (Fl (List D))} {f h : α → D} {p : α → Bool} : ∀ (xs : List α) (acc : List D), acc.length + xs.length ≤ 1000000 → (∀ x ∈ xs, ∀ acc : List D, acc.length < 1000000 → b acc (f x) = pure (.nx (if p x = true then acc ++ [h x] else acc))) → forD b (xs.map f) acc = pure (.nx (acc ++ (xs.filter p).map h))
  | [], acc, _, _ => by
    simp only [List.filter_nil, List.map_nil, List.append_nil]
    rfl
  | x :: xs, acc, hl, hb => by
    rw [List.length_cons] at hl
    rw [List.map_cons, forD_nx, hb x (List.mem_cons_self ..) acc (by omega), pure_bind, List.filter_cons]
    cases p x with
    | true =>
      rw [if_pos rfl, if_pos rfl]
      have ih := for_filterH (h := h) xs (acc ++ [h x]) (by rw [List.length_append, List.length_singleton]; omega) fun y hy => hb y (List.mem_cons_of_mem _ hy)
      rw [List.append_assoc] at ih
      exact ih
    | false =>
      rw [if_neg (by simp), if_neg (by simp)]
      exact for_filterH xs acc (by omega) fun y hy => hb y (List.mem_cons_of_mem _ hy)
abbrev lsD (ls : List (List Str)) : List D := ls.map fun l => D.lst (strsD l)
theorem lines_eq {sets : List Str} (hs : sets.length ≤ 6) (hne : 0 < sets.length) {fs : Fs} (hf : fs.length ≤ 190) : m__law_lines [.lst (strsD sets), .tup (prsD fs)] = pure (.lst (lsD (linesN sets fs sets.length))) := by
  have big : ∀ n, n ≤ sets.length → (linesN sets fs n).length ≤ 46656 := fun n hn => by
    refine Nat.le_trans (lines_len sets fs n) ?_
    refine Nat.le_trans (Nat.pow_le_pow_left hs n) ?_
    exact Nat.le_trans (Nat.pow_le_pow_right (by decide) (by omega : n ≤ 6)) (by decide)
  -- one begun line
  have inner : ∀ (l : List Str) (acc : List D), l.length ≤ 6 → acc.length + sets.length ≤ 1000000 → forD (S := List D) (fun s7 d => on1 (fun c8 => ((b1 items (pure (D.tup (prsD fs)))) >>= fun ds => lcD (fun d => on2 (lcB (fun c9 => mAnd (b1 asB (b2 dEq (pure c9.2) (pure c8))) (b1 asB (b2 dNotIn (pure c9.1) (pure (D.lst (strsD l)))))) (fun c9 => pure c9.1)) d) ds []) >>= fun v10 => mIf (mAnd (b1 asB (b2 dNotIn (pure c8) (pure (D.lst (strsD l))))) (b1 asB (b2 dEq (pure (D.lst v10)) (aNil D dLst)))) (mApp (b2 dAdd (pure (D.lst (strsD l))) ((aCons (pure c8) aNil) D dLst)) s7 fun v11 => pure (.nx (s7 ++ [v11]))) (pure (.nx s7))) d) (strsD sets) acc = pure (.nx (acc ++ lsD (stepL sets fs l))) := by
    intro l acc hl ha
    have e : lsD (stepL sets fs l) = (nextsL sets fs l).map fun e => D.lst (strsD (l ++ [e])) := List.map_map
    rw [e]
    refine for_filterH (h := fun e => D.lst (strsD (l ++ [e]))) sets acc ha fun s _ acc hacc => ?_
    have e1 : lcD (fun d => on2 (lcB (fun c9 => mAnd (b1 asB (b2 dEq (pure c9.2) (pure (D.str s)))) (b1 asB (b2 dNotIn (pure c9.1) (pure (D.lst (strsD l)))))) (fun c9 => pure c9.1)) d) (prsD fs) [] = pure (strsD ((fs.filter fun f => f.2 == s && !l.contains f.1).map (·.1))) := by
      rw [lc_filter (p := fun f => f.2 == s && !l.contains f.1) (h := fun f : Str × Str => D.str f.1) fs (fun f _ => ?_) (by omega)]
      · congr 1
        exact List.map_map.symm
      · simp only [runS, seqF, b1, b2, aCons, aNil, mIf, mAnd, mOr, mNot, vAnd, vOr, vNot, mRet, mLst, mTwo, mSl, on1, lcB, e_on2, e_on4, pure_bind, bind_assoc, asB, asI, e_isO, e_calm, e_both, e_cB1, e_cB2, e_cB3, e_cB4, e_endr, e_endn, if_true, if_false, Bool.false_eq_true, Bool.not_true, Bool.not_false, it_lst, it_tup, d_lenl, d_lent, List.length_map, ix_t0, ix_t1, ix_l0, ix_l1, c_tupl, c_tupt, asQ, qList, qLen, d_addi, d_sub, d_gt, d_lt, d_le, d_ge, PD.eq_int, PD.ne_int, PD.eq_str, PD.ne_str, nin_lst]
        cases f.2 == s <;> cases l.contains f.1 <;> rfl
    have e2 : ((fs.filter fun f => f.2 == s && !l.contains f.1).map (·.1)).isEmpty = (fs.filter fun f => f.2 == s && !l.contains f.1).isEmpty := by
      cases fs.filter fun f => f.2 == s && !l.contains f.1 <;> rfl
    simp only [runS, seqF, b1, b2, aCons, aNil, mIf, mAnd, mOr, mNot, vAnd, vOr, vNot, mRet, mLst, mTwo, mSl, on1, lcB, e_on2, e_on4, pure_bind, bind_assoc, asB, asI, e_isO, e_calm, e_both, e_cB1, e_cB2, e_cB3, e_cB4, e_endr, e_endn, if_true, if_false, Bool.false_eq_true, Bool.not_true, Bool.not_false, it_lst, it_tup, d_lenl, d_lent, List.length_map, ix_t0, ix_t1, ix_l0, ix_l1, c_tupl, c_tupt, asQ, qList, qLen, d_addi, d_sub, d_gt, d_lt, d_le, d_ge, PD.eq_int, PD.ne_int, PD.eq_str, PD.ne_str] at e1
    simp only [runS, seqF, b1, b2, aCons, aNil, mIf, mAnd, mOr, mNot, vAnd, vOr, vNot, mRet, mLst, mTwo, mSl, on1, lcB, e_on2, e_on4, pure_bind, bind_assoc, asB, asI, e_isO, e_calm, e_both, e_cB1, e_cB2, e_cB3, e_cB4, e_endr, e_endn, if_true, if_false, Bool.false_eq_true, Bool.not_true, Bool.not_false, it_lst, it_tup, d_lenl, d_lent, List.length_map, ix_t0, ix_t1, ix_l0, ix_l1, c_tupl, c_tupt, asQ, qList, qLen, d_addi, d_sub, d_gt, d_lt, d_le, d_ge, PD.eq_int, PD.ne_int, PD.eq_str, PD.ne_str, e1, nin_lst, d_lst [] (by show 0 ≤ 16777216; decide), eq_nil, e2, mApp, d_lst [D.str s] (by show 1 ≤ 16777216; decide), d_addl (strsD l) [D.str s] (by rw [List.length_map, List.length_singleton]; exact len_line (by omega)), if_pos (lt_line (show acc.length ≤ 1000000 by omega))]
    have e3 : strsD l ++ [D.str s] = strsD (l ++ [s]) := (strs_append l [s]).symm
    rw [e3]
    cases l.contains s <;> cases (fs.filter fun f => f.2 == s && !l.contains f.1).isEmpty <;> rfl
  have len_in : ∀ n l, l ∈ linesN sets fs n → l.length = n := fun n l h => (lines_sound n l h).1
  have mid : ∀ n, n < sets.length → forD (S := List D) (fun s5 d => on1 (fun c6 => seqF (T := List D) ((b1 items (pure (D.lst (strsD sets)))) >>= fun ds => forD (S := List D) (fun s7 d => on1 (fun c8 => ((b1 items (pure (D.tup (prsD fs)))) >>= fun ds => lcD (fun d => on2 (lcB (fun c9 => mAnd (b1 asB (b2 dEq (pure c9.2) (pure c8))) (b1 asB (b2 dNotIn (pure c9.1) (pure c6)))) (fun c9 => pure c9.1)) d) ds []) >>= fun v10 => mIf (mAnd (b1 asB (b2 dNotIn (pure c8) (pure c6))) (b1 asB (b2 dEq (pure (D.lst v10)) (aNil D dLst)))) (mApp (b2 dAdd (pure c6) ((aCons (pure c8) aNil) D dLst)) s7 fun v11 => pure (.nx (s7 ++ [v11]))) (pure (.nx s7))) d) ds s5) fun s7 => pure (.nx s7)) d) (lsD (linesN sets fs n)) [] = pure (.nx (lsD (linesN sets fs (n + 1)))) := by
    intro n hn
    have hb := big n (by omega)
    have hstep : ∀ l, (lsD (stepL sets fs l)).length ≤ sets.length := fun l => by
      rw [List.length_map]
      unfold stepL nextsL
      rw [List.length_map]
      exact List.length_filter_le ..
    have e : lsD (linesN sets fs (n + 1)) = [] ++ (linesN sets fs n).flatMap fun l => lsD (stepL sets fs l) := by
      rw [List.nil_append]
      show List.map _ ((linesN sets fs n).flatMap (stepL sets fs)) = _
      rw [List.map_flatMap]
    rw [e]
    have sumle : ∀ L : List (List Str), (L.map fun l => (lsD (stepL sets fs l)).length).sum ≤ L.length * sets.length := by
      intro L
      induction L with
      | nil => simp
      | cons l L ih =>
        rw [List.map_cons, List.sum_cons, List.length_cons, Nat.succ_mul]
        have := hstep l
        omega
    refine for_flat (f := fun l => D.lst (strsD l)) (L := fun l => lsD (stepL sets fs l)) (linesN sets fs n) [] 900000 ?_ fun l hl acc ha => ?_
    · have h1 := sumle (linesN sets fs n)
      have h2 := Nat.mul_le_mul hb hs
      rw [List.length_nil]
      omega
    · have hll := len_in n l hl
      have := inner l acc (by omega) (by omega)
      simp only [runS, seqF, b1, b2, aCons, aNil, mIf, mAnd, mOr, mNot, vAnd, vOr, vNot, mRet, mLst, mTwo, mSl, on1, lcB, e_on2, e_on4, pure_bind, bind_assoc, asB, asI, e_isO, e_calm, e_both, e_cB1, e_cB2, e_cB3, e_cB4, e_endr, e_endn, if_true, if_false, Bool.false_eq_true, Bool.not_true, Bool.not_false, it_lst, it_tup, d_lenl, d_lent, List.length_map, ix_t0, ix_t1, ix_l0, ix_l1, c_tupl, c_tupt, asQ, qList, qLen, d_addi, d_sub, d_gt, d_lt, d_le, d_ge, PD.eq_int, PD.ne_int, PD.eq_str, PD.ne_str] at this
      simp only [runS, seqF, b1, b2, aCons, aNil, mIf, mAnd, mOr, mNot, vAnd, vOr, vNot, mRet, mLst, mTwo, mSl, on1, lcB, e_on2, e_on4, pure_bind, bind_assoc, asB, asI, e_isO, e_calm, e_both, e_cB1, e_cB2, e_cB3, e_cB4, e_endr, e_endn, if_true, if_false, Bool.false_eq_true, Bool.not_true, Bool.not_false, it_lst, it_tup, d_lenl, d_lent, List.length_map, ix_t0, ix_t1, ix_l0, ix_l1, c_tupl, c_tupt, asQ, qList, qLen, d_addi, d_sub, d_gt, d_lt, d_le, d_ge, PD.eq_int, PD.ne_int, PD.eq_str, PD.ne_str, this]
  unfold m__law_lines
  have outer : ∀ (k : Nat) (is : List D), is.length + k = sets.length → forD (S := D) (fun s2 d => on1 (fun c3 => (aNil (List D) nLst) >>= fun v4 => seqF (T := List D) ((b1 items (pure s2)) >>= fun ds => forD (S := List D) (fun s5 d => on1 (fun c6 => seqF (T := List D) ((b1 items (pure (D.lst (strsD sets)))) >>= fun ds => forD (S := List D) (fun s7 d => on1 (fun c8 => ((b1 items (pure (D.tup (prsD fs)))) >>= fun ds => lcD (fun d => on2 (lcB (fun c9 => mAnd (b1 asB (b2 dEq (pure c9.2) (pure c8))) (b1 asB (b2 dNotIn (pure c9.1) (pure c6)))) (fun c9 => pure c9.1)) d) ds []) >>= fun v10 => mIf (mAnd (b1 asB (b2 dNotIn (pure c8) (pure c6))) (b1 asB (b2 dEq (pure (D.lst v10)) (aNil D dLst)))) (mApp (b2 dAdd (pure c6) ((aCons (pure c8) aNil) D dLst)) s7 fun v11 => pure (.nx (s7 ++ [v11]))) (pure (.nx s7))) d) ds s5) fun s7 => pure (.nx s7)) d) ds v4) fun s5 => (pure (D.lst s5)) >>= fun v13 => pure (.nx v13)) d) is (.lst (lsD (linesN sets fs k))) = pure (.nx (.lst (lsD (linesN sets fs sets.length)))) := by
    intro k is
    induction is generalizing k with
    | nil =>
      intro h
      rw [List.length_nil, Nat.zero_add] at h
      rw [h]
      rfl
    | cons d is ih =>
      intro h
      rw [List.length_cons] at h
      have m := mid k (by omega)
      have := ih (k + 1) (by omega)
      rw [forD_nx]
      simp only [runS, seqF, b1, b2, aCons, aNil, mIf, mAnd, mOr, mNot, vAnd, vOr, vNot, mRet, mLst, mTwo, mSl, on1, lcB, e_on2, e_on4, pure_bind, bind_assoc, asB, asI, e_isO, e_calm, e_both, e_cB1, e_cB2, e_cB3, e_cB4, e_endr, e_endn, if_true, if_false, Bool.false_eq_true, Bool.not_true, Bool.not_false, it_lst, it_tup, d_lenl, d_lent, List.length_map, ix_t0, ix_t1, ix_l0, ix_l1, c_tupl, c_tupt, asQ, qList, qLen, d_addi, d_sub, d_gt, d_lt, d_le, d_ge, PD.eq_int, PD.ne_int, PD.eq_str, PD.ne_str] at m this
      simp only [runS, seqF, b1, b2, aCons, aNil, mIf, mAnd, mOr, mNot, vAnd, vOr, vNot, mRet, mLst, mTwo, mSl, on1, lcB, e_on2, e_on4, pure_bind, bind_assoc, asB, asI, e_isO, e_calm, e_both, e_cB1, e_cB2, e_cB3, e_cB4, e_endr, e_endn, if_true, if_false, Bool.false_eq_true, Bool.not_true, Bool.not_false, it_lst, it_tup, d_lenl, d_lent, List.length_map, ix_t0, ix_t1, ix_l0, ix_l1, c_tupl, c_tupt, asQ, qList, qLen, d_addi, d_sub, d_gt, d_lt, d_le, d_ge, PD.eq_int, PD.ne_int, PD.eq_str, PD.ne_str, n_lst [] (by show 0 ≤ 16777216; decide), m]
      exact this
  have o := outer 0 ((List.range sets.length).map fun (i : Nat) => D.int (i : Nat)) (by simp)
  simp only [runS, seqF, b1, b2, aCons, aNil, mIf, mAnd, mOr, mNot, vAnd, vOr, vNot, mRet, mLst, mTwo, mSl, on1, lcB, e_on2, e_on4, pure_bind, bind_assoc, asB, asI, e_isO, e_calm, e_both, e_cB1, e_cB2, e_cB3, e_cB4, e_endr, e_endn, if_true, if_false, Bool.false_eq_true, Bool.not_true, Bool.not_false, it_lst, it_tup, d_lenl, d_lent, List.length_map, ix_t0, ix_t1, ix_l0, ix_l1, c_tupl, c_tupt, asQ, qList, qLen, d_addi, d_sub, d_gt, d_lt, d_le, d_ge, PD.eq_int, PD.ne_int, PD.eq_str, PD.ne_str, d_lst [] (by show 0 ≤ 16777216; decide)] at o
  simp only [runS, seqF, b1, b2, aCons, aNil, mIf, mAnd, mOr, mNot, vAnd, vOr, vNot, mRet, mLst, mTwo, mSl, on1, lcB, e_on2, e_on4, pure_bind, bind_assoc, asB, asI, e_isO, e_calm, e_both, e_cB1, e_cB2, e_cB3, e_cB4, e_endr, e_endn, if_true, if_false, Bool.false_eq_true, Bool.not_true, Bool.not_false, it_lst, it_tup, d_lenl, d_lent, List.length_map, ix_t0, ix_t1, ix_l0, ix_l1, c_tupl, c_tupt, asQ, qList, qLen, d_addi, d_sub, d_gt, d_lt, d_le, d_ge, PD.eq_int, PD.ne_int, PD.eq_str, PD.ne_str, d_lst [] (by show 0 ≤ 16777216; decide), d_lst [D.lst []] (by show 1 ≤ 16777216; decide), rngN sets.length (by omega)]
  rw [show [D.lst []] = lsD (linesN sets fs 0) from rfl, o]
  simp only [runS, seqF, b1, b2, aCons, aNil, mIf, mAnd, mOr, mNot, vAnd, vOr, vNot, mRet, mLst, mTwo, mSl, on1, lcB, e_on2, e_on4, pure_bind, bind_assoc, asB, asI, e_isO, e_calm, e_both, e_cB1, e_cB2, e_cB3, e_cB4, e_endr, e_endn, if_true, if_false, Bool.false_eq_true, Bool.not_true, Bool.not_false, it_lst, it_tup, d_lenl, d_lent, List.length_map, ix_t0, ix_t1, ix_l0, ix_l1, c_tupl, c_tupt, asQ, qList, qLen, d_addi, d_sub, d_gt, d_lt, d_le, d_ge, PD.eq_int, PD.ne_int, PD.eq_str, PD.ne_str]
end G
namespace G
open PySem PySem.Spec L2 PD
open PyProof.Rows hiding St
theorem perm_erase {α : Type} : ∀ (l : List α) (i : Nat) (v : α), l[i]? = some v → (v :: l.eraseIdx i).Perm l
  | [], i, v, h => by simp at h
  | x :: l, 0, v, h => by
    simp at h
    subst h
    exact List.Perm.refl _
  | x :: l, i + 1, v, h => by
    have ih := perm_erase l i v (by simpa using h)
    rw [List.eraseIdx_cons_succ]
    exact (List.Perm.swap x v _).trans (ih.cons x)
theorem perm_map_inv {α β : Type} {f : α → β} : ∀ {xs : List α} {ys : List β}, ys.Perm (xs.map f) → ∃ xs' : List α, ys = xs'.map f ∧ xs'.Perm xs
  | [], ys, p => ⟨[], by simpa using p, List.Perm.refl _⟩
  | x :: xs, ys, p => by
    have hm : f x ∈ ys := p.mem_iff.mpr (by simp)
    obtain ⟨l1, l2, rfl⟩ := List.append_of_mem hm
    have p2 : (f x :: (l1 ++ l2)).Perm (f x :: xs.map f) := List.perm_middle.symm.trans p
    obtain ⟨zs, e, q⟩ := perm_map_inv (xs := xs) (List.Perm.cons_inv p2)
    have e1 : l1 = (zs.take l1.length).map f := by
      have := congrArg (List.take l1.length) e
      rw [List.take_left] at this
      exact this.trans List.map_take.symm
    have e2 : l2 = (zs.drop l1.length).map f := by
      have := congrArg (List.drop l1.length) e
      rw [List.drop_left] at this
      exact this.trans List.map_drop.symm
    refine ⟨zs.take l1.length ++ x :: zs.drop l1.length, ?_, ?_⟩
    · rw [List.map_append, List.map_cons, ← e1, ← e2]
    · refine List.Perm.trans List.perm_middle (List.Perm.cons x ?_)
      rw [List.take_append_drop]
      exact q
theorem pick_eq {ys : List D} {r : Int} (h0 : 0 ≤ r) (h1 : r < ys.length) (hl : ys.length ≤ 100000) : ∃ v, ys[r.toNat]? = some v ∧ pickD ys (.int r) = some (r.toNat, v) := by
  have hlt : r.toNat < ys.length := by omega
  refine ⟨ys[r.toNat], List.getElem?_eq_getElem hlt, ?_⟩
  unfold pickD
  dsimp only
  rw [if_pos ⟨by omega, by omega⟩, seqIndex_of h0 h1]
  dsimp only
  rw [List.getElem?_eq_getElem hlt]
theorem mixed_pos (n : Nat) (xs : List D) (hl : xs.length ≤ 1000) : Pos n (m__law_mixed [.id n, .lst xs]) fun d => ∃ ys, d = .lst ys ∧ ys.Perm xs := by
  unfold m__law_mixed
  simp only [b1, asQ, qList, pure_bind, mTwo, aCons, aNil, n_lst [] (by show 0 ≤ 16777216; decide), qLen, rngN xs.length (by omega)]
  refine Pos.runS (Pos.seqF (R := fun _ => False) (I := fun s => s.1.Perm xs) (Pos.mono (Pos.forD (R := fun _ => False) (fun ds (s : List D × List D) => (s.1 ++ s.2).Perm xs ∧ ds.length = s.2.length) (fun d ds s ⟨p, l⟩ => ?_) _ _ ⟨by simp, by simp⟩) ?_) ?_ fun d h => h.elim)
  · have hp := p.length_eq
    rw [List.length_append] at hp
    rw [List.length_cons] at l
    simp only [on1, e_take, mAppPop]
    refine Pos.bind (take_pos n s.2.length (by omega) (by omega)) fun d ⟨r, e, h0, h1⟩ => ?_
    subst e
    obtain ⟨v, e1, e2⟩ := pick_eq h0 h1 (by omega)
    rw [e2]
    dsimp only
    rw [if_pos (lt_line (by omega))]
    refine Pos.pure (.inl ⟨_, .inl rfl, ?_, ?_⟩)
    · refine List.Perm.trans ?_ p
      show (s.1 ++ [v] ++ s.2.eraseIdx r.toNat).Perm (s.1 ++ s.2)
      rw [List.append_assoc]
      exact List.Perm.append_left _ (perm_erase s.2 r.toNat v e1)
    · show ds.length = (s.2.eraseIdx r.toNat).length
      rw [List.length_eraseIdx_of_lt (by omega)]
      omega
  · intro r hr
    rcases hr with ⟨t, e, p, l⟩ | ⟨d, e, f⟩
    · refine .inl ⟨t, e, ?_⟩
      have : t.2 = [] := List.length_eq_zero_iff.mp l.symm
      rw [this, List.append_nil] at p
      exact p
    · exact f.elim
  · intro t p
    exact Pos.pure ⟨_, rfl, _, rfl, p⟩
theorem e_mixed (n : Nat) (d : D) : cB 2 m__law_mixed (fun ds _ => ds) [.id n, d] = m__law_mixed [.id n, d] := rfl
structure SeenI (b : Bd) (line : List Str) (k j : Nat) (fs : Fs) : Prop where
  good : ∀ f ∈ fs, f.1 ∈ b.sets ∧ f.2 ∈ b.sets ∧ adjS f.1 f.2 = true ∧ line.idxOf f.1 < line.idxOf f.2
  nd : fs.Nodup
  at_ : ∀ f ∈ fs, line.idxOf f.2 < k ∨ (line.idxOf f.2 = k ∧ line.idxOf f.1 < j)
theorem SeenI.more {b : Bd} {line : List Str} {k j : Nat} {fs : Fs} (i : SeenI b line k j fs) : SeenI b line k (j + 1) fs := ⟨i.good, i.nd, fun f hf => (i.at_ f hf).imp_right fun h => ⟨h.1, by omega⟩⟩
theorem SeenI.next {b : Bd} {line : List Str} {k j : Nat} {fs : Fs} (i : SeenI b line k j fs) : SeenI b line (k + 1) 0 fs := ⟨i.good, i.nd, fun f hf => .inl (by rcases i.at_ f hf with h | h <;> omega)⟩
theorem idx_get {line : List Str} (nd : line.Nodup) {j : Nat} {x : Str} (h : line[j]? = some x) : line.idxOf x = j := by
  obtain ⟨hj, e⟩ := List.getElem?_eq_some_iff.mp h
  have := nd.idxOf_getElem j hj
  rw [e] at this
  exact this
theorem nodup_leP : ∀ {l U : Fs}, l.Nodup → (∀ x ∈ l, x ∈ U) → l.length ≤ U.length
  | [], _, _, _ => Nat.zero_le _
  | x :: l, U, nd, h => by
    rw [List.nodup_cons] at nd
    have hx := h x (List.mem_cons_self ..)
    have := nodup_leP (l := l) (U := U.erase x) nd.2 fun y hy => by
      have ne : y ≠ x := fun z => nd.1 (z ▸ hy)
      exact (List.mem_erase_of_ne ne).mpr (h y (List.mem_cons_of_mem _ hy))
    rw [List.length_erase_of_mem hx] at this
    have pos : 0 < U.length := List.length_pos_of_mem hx
    rw [List.length_cons]
    omega
theorem SeenI.len {b : Bd} {line : List Str} {k j : Nat} {fs : Fs} (i : SeenI b line k j fs) : fs.length ≤ b.sets.length * b.sets.length := by
  have := nodup_leP (U := b.sets.flatMap fun s => b.sets.map fun t => (s, t)) i.nd fun f hf => List.mem_flatMap.mpr ⟨f.1, (i.good f hf).1, List.mem_map.mpr ⟨f.2, (i.good f hf).2.1, rfl⟩⟩
  refine Nat.le_trans this ?_
  rw [List.length_flatMap]
  simp only [List.length_map, List.map_const', List.sum_replicate_nat]
  exact Nat.le_refl _
section
variable {b : Bd} (B : BdOk b) (LB : LBd b) (hs : b.sets.length ≤ 13) {line : List Str} (pl : line.Perm b.sets)
include B LB hs pl
theorem seen_pos (n : Nat) : Pos n (m__law_seen [.id n, .lst (strsD line)]) fun d => ∃ fs, d = .tup (prsD fs) ∧ FsOk b fs ∧ fitB line fs = true := by
  have nd : line.Nodup := pl.nodup_iff.mpr B.nodup
  have hll := pl.length_eq
  have hsq := Nat.mul_le_mul hs hs
  unfold m__law_seen
  simp only [mTwo, aCons, aNil, pure_bind, bind_assoc]
  rw [d_lst _ (by show 5 ≤ 16777216; decide)]
  simp only [pure_bind, e_of]
  refine Pos.runS (Pos.bind (of_pos n _ (by simp) (by simp)) fun v hv => ?_)
  have hvi : ∃ i : Int, v = .int i := by
    simp only [List.mem_cons, List.not_mem_nil, or_false] at hv
    rcases hv with h | h | h | h | h <;> exact ⟨_, h⟩
  obtain ⟨share, rfl⟩ := hvi
  simp only [n_lst [] (by show 0 ≤ 16777216; decide), pure_bind, d_lenl, List.length_map, rngN line.length (by omega)]
  refine Pos.seqF (R := fun _ => False) (I := fun s => ∃ fs k, s = prsD fs ∧ SeenI b line k 0 fs) (Pos.mono (Pos.forD (R := fun _ => False) (fun ds (s : List D) => ∃ fs k, s = prsD fs ∧ SeenI b line k 0 fs ∧ ds = ((List.range line.length).drop k).map fun (i : Nat) => D.int (i : Nat)) ?_ _ _ ⟨[], 0, rfl, ⟨fun _ h => (by cases h), List.nodup_nil, fun _ h => (by cases h)⟩, by simp⟩) ?_) ?_ fun d h => h.elim
  · rintro d ds s ⟨fs, k, rfl, i, ed⟩
    have hk : k < line.length := by
      by_cases c : k < line.length
      · exact c
      · rw [List.drop_eq_nil_of_le (by simp; omega)] at ed
        cases ed
    have ek : (List.range line.length).drop k = k :: (List.range line.length).drop (k + 1) := by
      rw [List.drop_eq_getElem_cons (by simpa using hk)]
      simp
    rw [ek, List.map_cons] at ed
    injection ed with e1 e2
    subst e1
    have cut : cutL (strsD line) none (some ((k : Nat) : Int)) = strsD (line.take k) := by
      rw [cut_hiN _ _ (by rw [List.length_map]; omega)]
      exact List.map_take.symm
    have gk : (strsD line)[k]? = some (.str line[k]) := by rw [List.getElem?_map, List.getElem?_eq_getElem hk]; rfl
    have mk : line[k] ∈ b.sets := pl.mem_iff.mp (List.getElem_mem hk)
    simp only [on1, b1, b2, mSl, pure_bind, asI, dSl, cut, it_lst, bind_assoc, ix_lstN gk, mIf, mAnd]
    refine Pos.seqF (R := fun _ => False) (I := fun s => ∃ fs j, s = prsD fs ∧ SeenI b line k j fs) (Pos.mono (Pos.forD (R := fun _ => False) (fun ds (s : List D) => ∃ fs j, s = prsD fs ∧ SeenI b line k j fs ∧ ds = strsD ((line.take k).drop j)) ?_ _ _ ⟨fs, 0, rfl, i, rfl⟩) ?_) ?_ fun d h => h.elim
    · rintro d ds' s ⟨fs, j, rfl, i, ed⟩
      have hj : j < k := by
        by_cases c : j < k
        · exact c
        · rw [List.drop_eq_nil_of_le (by simp; omega)] at ed
          cases ed
      have ej : (line.take k).drop j = line[j] :: (line.take k).drop (j + 1) := by
        rw [List.drop_eq_getElem_cons (by simp; omega)]
        simp
      rw [ej, strs_cons] at ed
      injection ed with e3 e4
      subst e3
      have mj : line[j] ∈ b.sets := pl.mem_iff.mp (List.getElem_mem (by omega))
      have stay : ∃ fs' j', prsD fs = prsD fs' ∧ SeenI b line k j' fs' ∧ ds' = strsD ((line.take k).drop j') := ⟨fs, j + 1, rfl, i.more, e4⟩
      simp only [e_cB2, LB.apart _ mj _ mk, pure_bind, PD.eq_int, apart_one, asB, bind_assoc]
      by_cases ca : adjS line[j] line[k] = true
      · simp only [ca, if_true, bind_assoc, pure_bind]
        refine Pos.bind (take_pos n 5 (by decide) (by decide)) fun d ⟨r, er, h0, h1⟩ => ?_
        subst er
        simp only [d_lt, pure_bind, asB]
        by_cases cs : r < share
        · have hlen := i.len
          simp only [decide_eq_true cs, if_true, mApp, d_tup [D.str line[j], D.str line[k]] (by show 2 ≤ 16777216; decide), pure_bind]
          rw [if_pos (lt_line (by rw [List.length_map]; omega))]
          have i1 := idx_get nd (List.getElem?_eq_getElem (show j < line.length by omega))
          have i2 := idx_get nd (List.getElem?_eq_getElem hk)
          refine Pos.pure (.inl ⟨_, .inl rfl, fs ++ [(line[j], line[k])], j + 1, by simp, ⟨fun f hf => ?_, ?_, fun f hf => ?_⟩, e4⟩)
          · rcases List.mem_append.mp hf with h | h
            · exact i.good f h
            · rw [List.mem_singleton.mp h]
              exact ⟨mj, mk, ca, by rw [i1, i2]; exact hj⟩
          · refine List.nodup_append.mpr ⟨i.nd, by simp, fun x hx y hy z => ?_⟩
            rw [List.mem_singleton.mp hy] at z
            subst z
            have := i.at_ _ hx
            simp only [i1, i2] at this
            omega
          · rcases List.mem_append.mp hf with h | h
            · exact (i.more).at_ f h
            · rw [List.mem_singleton.mp h]
              exact .inr ⟨i2, by rw [i1]; omega⟩
        · simp only [decide_eq_false cs, Bool.false_eq_true, if_false]
          exact Pos.pure (.inl ⟨_, .inl rfl, stay⟩)
      · simp only [Bool.not_eq_true] at ca
        simp only [ca, Bool.false_eq_true, if_false, pure_bind]
        exact Pos.pure (.inl ⟨_, .inl rfl, stay⟩)
    · intro r hr
      rcases hr with ⟨t, e, fs, j, e2, i, _⟩ | ⟨d, e, f⟩
      · exact .inl ⟨t, e, fs, j, e2, i⟩
      · exact f.elim
    · rintro t ⟨fs, j, rfl, i⟩
      exact Pos.pure (.inl ⟨_, .inl rfl, fs, k + 1, rfl, i.next, e2⟩)
  · intro r hr
    rcases hr with ⟨t, e, fs, k, e2, i, _⟩ | ⟨d, e, f⟩
    · exact .inl ⟨t, e, fs, k, e2, i⟩
    · exact f.elim
  · rintro t ⟨fs, k, rfl, i⟩
    have hlen := i.len
    simp only [mRet, e_mixed, bind_assoc]
    refine Pos.bind (mixed_pos n (prsD fs) (by rw [List.length_map]; omega)) fun d ⟨ys, e, p⟩ => ?_
    subst e
    obtain ⟨gs, rfl, q⟩ := perm_map_inv p
    simp only [c_tupl, pure_bind]
    refine Pos.pure ⟨_, rfl, gs, rfl, ⟨fun f hf => ?_, q.nodup_iff.mpr i.nd, by rw [q.length_eq]; omega⟩, ?_⟩
    · have := i.good f (q.mem_iff.mp hf)
      exact ⟨this.1, this.2.1, this.2.2.1⟩
    · unfold fitB
      rw [List.all_eq_true]
      exact fun f hf => decide_eq_true (i.good f (q.mem_iff.mp hf)).2.2.2
end
end G
namespace G
open PySem PySem.Spec L2 PD
open PyProof.Rows hiding St
theorem of_table {α β : Type} {l : List α} {f g : α → β} (h : l.map f = l.map g) : ∀ x ∈ l, f x = g x := List.map_inj_left.mp h
theorem of_table2 {α β : Type} {l : List α} {f g : α → α → β} (h : l.map (fun s => l.map (f s)) = l.map fun s => l.map (g s)) : ∀ s ∈ l, ∀ t ∈ l, f s t = g s t := fun s hs t ht => of_table (of_table h s hs) t ht
def bd2 : Bd := ⟨("2" : Str), [2], [("01" : Str)], [("0" : Str), ("1" : Str)]⟩
theorem bd2_ok : BdOk bd2 where
  told := funext fun g => by kernel_rfl
  whole := funext fun g => by kernel_rfl
  inside := funext fun g => by kernel_rfl
  beside := fun s hs => funext fun g => of_table (f := fun s => m_beside_part [.tup (strsD bd2.whole), .str s] g) (g := fun s => .ok (.lst (strsD (bd2.near s))) g) (by kernel_rfl) s hs
  nei := fun s hs t ht => funext fun g => of_table2 (f := fun s t => m_are_neighbours [.str s, .str t] g) (g := fun s t => .ok (.bl (adjS s t)) g) (by kernel_rfl) s hs t ht
  nodup := by decide +kernel
  small := by decide +kernel
  pos := by decide +kernel
  signs := by decide +kernel
  tsigns := by decide +kernel
  sym := by decide +kernel
  irr := by decide +kernel
theorem bd2_law : LBd bd2 where
  apart := fun s hs t ht => funext fun g => of_table2 (f := fun s t => m__law_apart [.str s, .str t] g) (g := fun s t => .ok (.int (apartN s t : Nat)) g) (by kernel_rfl) s hs t ht
  spread := funext fun g => by kernel_rfl
theorem bd2_rep : ∀ s ∈ bd2.sets, 1 ≤ (PyData.shown (.str s)).length ∧ (PyData.shown (.str s)).length ≤ 10 := by decide +kernel
def bd3 : Bd := ⟨("3" : Str), [3], [("012" : Str)], [("0" : Str), ("1" : Str), ("2" : Str)]⟩
theorem bd3_ok : BdOk bd3 where
  told := funext fun g => by kernel_rfl
  whole := funext fun g => by kernel_rfl
  inside := funext fun g => by kernel_rfl
  beside := fun s hs => funext fun g => of_table (f := fun s => m_beside_part [.tup (strsD bd3.whole), .str s] g) (g := fun s => .ok (.lst (strsD (bd3.near s))) g) (by kernel_rfl) s hs
  nei := fun s hs t ht => funext fun g => of_table2 (f := fun s t => m_are_neighbours [.str s, .str t] g) (g := fun s t => .ok (.bl (adjS s t)) g) (by kernel_rfl) s hs t ht
  nodup := by decide +kernel
  small := by decide +kernel
  pos := by decide +kernel
  signs := by decide +kernel
  tsigns := by decide +kernel
  sym := by decide +kernel
  irr := by decide +kernel
theorem bd3_law : LBd bd3 where
  apart := fun s hs t ht => funext fun g => of_table2 (f := fun s t => m__law_apart [.str s, .str t] g) (g := fun s t => .ok (.int (apartN s t : Nat)) g) (by kernel_rfl) s hs t ht
  spread := funext fun g => by kernel_rfl
theorem bd3_rep : ∀ s ∈ bd3.sets, 1 ≤ (PyData.shown (.str s)).length ∧ (PyData.shown (.str s)).length ≤ 10 := by decide +kernel
def bd22 : Bd := ⟨("22" : Str), [2, 2], [("01" : Str), ("01" : Str)], [("00" : Str), ("01" : Str), ("10" : Str), ("11" : Str)]⟩
theorem bd22_ok : BdOk bd22 where
  told := funext fun g => by kernel_rfl
  whole := funext fun g => by kernel_rfl
  inside := funext fun g => by kernel_rfl
  beside := fun s hs => funext fun g => of_table (f := fun s => m_beside_part [.tup (strsD bd22.whole), .str s] g) (g := fun s => .ok (.lst (strsD (bd22.near s))) g) (by kernel_rfl) s hs
  nei := fun s hs t ht => funext fun g => of_table2 (f := fun s t => m_are_neighbours [.str s, .str t] g) (g := fun s t => .ok (.bl (adjS s t)) g) (by kernel_rfl) s hs t ht
  nodup := by decide +kernel
  small := by decide +kernel
  pos := by decide +kernel
  signs := by decide +kernel
  tsigns := by decide +kernel
  sym := by decide +kernel
  irr := by decide +kernel
theorem bd22_law : LBd bd22 where
  apart := fun s hs t ht => funext fun g => of_table2 (f := fun s t => m__law_apart [.str s, .str t] g) (g := fun s t => .ok (.int (apartN s t : Nat)) g) (by kernel_rfl) s hs t ht
  spread := funext fun g => by kernel_rfl
theorem bd22_rep : ∀ s ∈ bd22.sets, 1 ≤ (PyData.shown (.str s)).length ∧ (PyData.shown (.str s)).length ≤ 10 := by decide +kernel
def bd32 : Bd := ⟨("32" : Str), [3, 2], [("012" : Str), ("01" : Str)], [("00" : Str), ("01" : Str), ("10" : Str), ("11" : Str), ("20" : Str), ("21" : Str)]⟩
theorem bd32_ok : BdOk bd32 where
  told := funext fun g => by kernel_rfl
  whole := funext fun g => by kernel_rfl
  inside := funext fun g => by kernel_rfl
  beside := fun s hs => funext fun g => of_table (f := fun s => m_beside_part [.tup (strsD bd32.whole), .str s] g) (g := fun s => .ok (.lst (strsD (bd32.near s))) g) (by kernel_rfl) s hs
  nei := fun s hs t ht => funext fun g => of_table2 (f := fun s t => m_are_neighbours [.str s, .str t] g) (g := fun s t => .ok (.bl (adjS s t)) g) (by kernel_rfl) s hs t ht
  nodup := by decide +kernel
  small := by decide +kernel
  pos := by decide +kernel
  signs := by decide +kernel
  tsigns := by decide +kernel
  sym := by decide +kernel
  irr := by decide +kernel
theorem bd32_law : LBd bd32 where
  apart := fun s hs t ht => funext fun g => of_table2 (f := fun s t => m__law_apart [.str s, .str t] g) (g := fun s t => .ok (.int (apartN s t : Nat)) g) (by kernel_rfl) s hs t ht
  spread := funext fun g => by kernel_rfl
theorem bd32_rep : ∀ s ∈ bd32.sets, 1 ≤ (PyData.shown (.str s)).length ∧ (PyData.shown (.str s)).length ≤ 10 := by decide +kernel
def bd23 : Bd := ⟨("23" : Str), [2, 3], [("01" : Str), ("012" : Str)], [("00" : Str), ("01" : Str), ("02" : Str), ("10" : Str), ("11" : Str), ("12" : Str)]⟩
theorem bd23_ok : BdOk bd23 where
  told := funext fun g => by kernel_rfl
  whole := funext fun g => by kernel_rfl
  inside := funext fun g => by kernel_rfl
  beside := fun s hs => funext fun g => of_table (f := fun s => m_beside_part [.tup (strsD bd23.whole), .str s] g) (g := fun s => .ok (.lst (strsD (bd23.near s))) g) (by kernel_rfl) s hs
  nei := fun s hs t ht => funext fun g => of_table2 (f := fun s t => m_are_neighbours [.str s, .str t] g) (g := fun s t => .ok (.bl (adjS s t)) g) (by kernel_rfl) s hs t ht
  nodup := by decide +kernel
  small := by decide +kernel
  pos := by decide +kernel
  signs := by decide +kernel
  tsigns := by decide +kernel
  sym := by decide +kernel
  irr := by decide +kernel
theorem bd23_law : LBd bd23 where
  apart := fun s hs t ht => funext fun g => of_table2 (f := fun s t => m__law_apart [.str s, .str t] g) (g := fun s t => .ok (.int (apartN s t : Nat)) g) (by kernel_rfl) s hs t ht
  spread := funext fun g => by kernel_rfl
theorem bd23_rep : ∀ s ∈ bd23.sets, 1 ≤ (PyData.shown (.str s)).length ∧ (PyData.shown (.str s)).length ≤ 10 := by decide +kernel
end G
namespace G
open PySem PySem.Spec L2 PD
open PyProof.Rows hiding St
theorem take_acyclic {line : List Str} {fs : Fs} (h : fitB line fs = true) : ∀ i (hi : i < fs.length), ¬ Reach (fs.take i) fs[i].2 fs[i].1 := fun i hi => no_back (a := fs[i].1) (b := fs[i].2) h (fun f hf => List.mem_of_mem_take hf) (List.getElem_mem hi)
theorem ret_id {S : Type} (m : M D) : ((m >>= fun d => pure (.ret d : Fl S)) >>= endF) = m := by
  rw [bind_assoc]
  simp only [pure_bind, e_endr]
  exact bind_pure m
theorem read_eq (x : D) : m_read_notes [x] = m_notes_told [x] := ret_id (S := Unit) _
theorem acc2 {w t : Str} {N p : D} (h1 : mdIn true kv_LENGTHS (.str w) = pure (.bl false)) (h2 : mdIx kv_LENGTHS (.str w) = pure (.int 2)) (nt : m_notes_told [.str t] = pure N) (hN : dIsN N = pure (.bl false)) :
    m_accepts [.tup [.str w, .str t], p] = m_accepts_whole [.str w, N, p] := by
  have e0 : isiD (tblT "tuple" []) (.tup [.str w, .str t]) = pure (.bl true) := rfl
  have e1 : isiD (tblT "str" []) (.str w) = pure (.bl true) := rfl
  have e2 : decide ((([D.str w, D.str t] : List D).length : Int) < 2) = false := rfl
  unfold m_accepts
  simp only [runS, seqF, b1, b2, aCons, aNil, mIf, mAnd, mOr, mNot, vAnd, vOr, vNot, mRet, mLst, mTwo, mSl, on1, lcB, e_on2, e_on4, pure_bind, bind_assoc, asB, asI, e_isO, e_calm, e_both, e_cB1, e_cB2, e_cB3, e_cB4, e_endr, e_endn, if_true, if_false, Bool.false_eq_true, Bool.not_true, Bool.not_false, it_lst, it_tup, d_lenl, d_lent, List.length_map, ix_t0, ix_t1, ix_l0, ix_l1, c_tupl, c_tupt, asQ, qList, qLen, d_addi, d_sub, d_gt, d_lt, d_le, d_ge, PD.eq_int, PD.ne_int, PD.eq_str, PD.ne_str, e0, e1, e2, h1, h2, e_len2, read_eq, nt, hN]
  exact bind_pure _
section
variable {b : Bd} (B : BdOk b) {fs : Fs} (F : FsOk b fs) {line : List Str} (pl : line.Perm b.sets) (fit : fitB line fs = true)
include B F pl fit
theorem told_line : m_notes_told [.str (sheetS b.text fs)] = pure (notesD b fs) := notes_told_eq B F (take_acyclic fit)
omit pl fit in
theorem isN_notes : dIsN (notesD b fs) = pure (.bl false) := rfl
theorem acc_one {p : D} {e : Bool} (he : m_is_empty [p] = pure (.bl e)) : m_accepts [.tup [.str "one", .str (sheetS b.text fs)], p] = pure (.bl (e && !twoB b fs)) := by
  rw [acc2 (by kernel_rfl) (by kernel_rfl) (told_line B F pl fit) (isN_notes B F)]
  have e1 : (("one" : Str) == ("one" : Str)) = true := beq_self_eq_true _
  unfold m_accepts_whole
  simp only [runS, seqF, b1, b2, aCons, aNil, mIf, mAnd, mOr, mNot, vAnd, vOr, vNot, mRet, mLst, mTwo, mSl, on1, lcB, e_on2, e_on4, pure_bind, bind_assoc, asB, asI, e_isO, e_calm, e_both, e_cB1, e_cB2, e_cB3, e_cB4, e_endr, e_endn, if_true, if_false, Bool.false_eq_true, Bool.not_true, Bool.not_false, it_lst, it_tup, d_lenl, d_lent, List.length_map, ix_t0, ix_t1, ix_l0, ix_l1, c_tupl, c_tupt, asQ, qList, qLen, d_addi, d_sub, d_gt, d_lt, d_le, d_ge, PD.eq_int, PD.ne_int, PD.eq_str, PD.ne_str, e1, he, two_eq B F]
  cases e <;> cases twoB b fs <;> rfl
theorem two_word : m_accepts [.tup [.str "two", .str (sheetS b.text fs)], p] = m_accepts_whole [.str "two", notesD b fs, p] := acc2 (by kernel_rfl) (by kernel_rfl) (told_line B F pl fit) (isN_notes B F)
theorem acc_two_bad {p : D} (h : m_is_order [b.d, p] = pure (.bl false)) : m_accepts [.tup [.str "two", .str (sheetS b.text fs)], p] = pure (.bl false) := by
  rw [acc2 (by kernel_rfl) (by kernel_rfl) (told_line B F pl fit) (isN_notes B F)]
  have e1 : (("two" : Str) == ("one" : Str)) = false := by decide +kernel
  have e2 : (("two" : Str) == ("two" : Str)) = true := beq_self_eq_true _
  have e3 : m_is_fitting [notesD b fs, p] = pure (.bl false) := by
    unfold m_is_fitting
    dsimp only
    rw [whole_of B, facts_of]
    simp only [runS, seqF, b1, b2, aCons, aNil, mIf, mAnd, mOr, mNot, vAnd, vOr, vNot, mRet, mLst, mTwo, mSl, on1, lcB, e_on2, e_on4, pure_bind, bind_assoc, asB, asI, e_isO, e_calm, e_both, e_cB1, e_cB2, e_cB3, e_cB4, e_endr, e_endn, if_true, if_false, Bool.false_eq_true, Bool.not_true, Bool.not_false, it_lst, it_tup, d_lenl, d_lent, List.length_map, ix_t0, ix_t1, ix_l0, ix_l1, c_tupl, c_tupt, asQ, qList, qLen, d_addi, d_sub, d_gt, d_lt, d_le, d_ge, PD.eq_int, PD.ne_int, PD.eq_str, PD.ne_str, h]
  unfold m_accepts_whole
  simp only [runS, seqF, b1, b2, aCons, aNil, mIf, mAnd, mOr, mNot, vAnd, vOr, vNot, mRet, mLst, mTwo, mSl, on1, lcB, e_on2, e_on4, pure_bind, bind_assoc, asB, asI, e_isO, e_calm, e_both, e_cB1, e_cB2, e_cB3, e_cB4, e_endr, e_endn, if_true, if_false, Bool.false_eq_true, Bool.not_true, Bool.not_false, it_lst, it_tup, d_lenl, d_lent, List.length_map, ix_t0, ix_t1, ix_l0, ix_l1, c_tupl, c_tupt, asQ, qList, qLen, d_addi, d_sub, d_gt, d_lt, d_le, d_ge, PD.eq_int, PD.ne_int, PD.eq_str, PD.ne_str, e1, e2, e3]
theorem acc_two_good {ys : List Str} (py : ys.Perm b.sets) : m_accepts [.tup [.str "two", .str (sheetS b.text fs)], .tup (strsD ys)] = pure (.bl (fitB ys fs && decide (1 < (topsL b ys).length))) := by
  rw [acc2 (by kernel_rfl) (by kernel_rfl) (told_line B F pl fit) (isN_notes B F)]
  have hs := B.small
  have hy := py.length_eq
  have e1 : (("two" : Str) == ("one" : Str)) = false := by decide +kernel
  have e2 : (("two" : Str) == ("two" : Str)) = true := beq_self_eq_true _
  have ho : isOrd b (.tup (strsD ys)) = true := (isOrd_iff B).mpr ⟨ys, rfl, py⟩
  have e4 := order_eq B (dat_strs ys) (by rw [List.length_map]; omega)
  rw [ho] at e4
  have e5 := fit_eq (ys := ys) (fs := fs) (fun f hf => ⟨py.mem_iff.mpr (F.mem f hf).1, py.mem_iff.mpr (F.mem f hf).2.1⟩) F.few (by omega)
  have e3 : m_is_fitting [notesD b fs, .tup (strsD ys)] = pure (.bl (fitB ys fs)) := by
    unfold m_is_fitting
    dsimp only
    rw [whole_of B, facts_of]
    simp only [runS, seqF, b1, b2, aCons, aNil, mIf, mAnd, mOr, mNot, vAnd, vOr, vNot, mRet, mLst, mTwo, mSl, on1, lcB, e_on2, e_on4, pure_bind, bind_assoc, asB, asI, e_isO, e_calm, e_both, e_cB1, e_cB2, e_cB3, e_cB4, e_endr, e_endn, if_true, if_false, Bool.false_eq_true, Bool.not_true, Bool.not_false, it_lst, it_tup, d_lenl, d_lent, List.length_map, ix_t0, ix_t1, ix_l0, ix_l1, c_tupl, c_tupt, asQ, qList, qLen, d_addi, d_sub, d_gt, d_lt, d_le, d_ge, PD.eq_int, PD.ne_int, PD.eq_str, PD.ne_str, e4, e5]
  have e6 := peaks_eq B (ys := ys) (fun s h => py.mem_iff.mpr h) (by omega)
  unfold m_accepts_whole
  dsimp only
  rw [whole_of B, bwhole_of B]
  simp only [runS, seqF, b1, b2, aCons, aNil, mIf, mAnd, mOr, mNot, vAnd, vOr, vNot, mRet, mLst, mTwo, mSl, on1, lcB, e_on2, e_on4, pure_bind, bind_assoc, asB, asI, e_isO, e_calm, e_both, e_cB1, e_cB2, e_cB3, e_cB4, e_endr, e_endn, if_true, if_false, Bool.false_eq_true, Bool.not_true, Bool.not_false, it_lst, it_tup, d_lenl, d_lent, List.length_map, ix_t0, ix_t1, ix_l0, ix_l1, c_tupl, c_tupt, asQ, qList, qLen, d_addi, d_sub, d_gt, d_lt, d_le, d_ge, PD.eq_int, PD.ne_int, PD.eq_str, PD.ne_str, e1, e2, e3, e6]
  have e7 : decide ((1 : Int) < ((topsL b ys).length : Nat)) = decide (1 < (topsL b ys).length) := by
    rw [Bool.eq_iff_iff, decide_eq_true_eq, decide_eq_true_eq]
    omega
  rw [e7]
  cases fitB ys fs <;> rfl
end
theorem e_accK (a b : D) : cK0 2 m_accepts (fun _ es => es.reverse) [b, a] = m_accepts [a, b] := rfl
theorem rep_bb (x y : Bool) : ∃ z, fRepr (.lst [.bl x, .bl x]) = pure (.str z) ∧ ∃ w, fRepr (.lst [.bl y, .bl y]) = pure (.str w) ∧ (z == w) = (x == y) := by
  cases x <;> cases y <;> exact ⟨_, rfl, _, rfl, by decide +kernel⟩
theorem said_eq {a p : D} {x : Bool} (h : m_accepts [a, p] = pure (.bl x)) (due : Bool) : m__law_said [a, p, .bl due] = pure (.bl (x == due)) := by
  obtain ⟨z, e1, w, e2, e3⟩ := rep_bb x due
  unfold m__law_said
  simp only [runS, seqF, b1, b2, aCons, aNil, mIf, mAnd, mOr, mNot, vAnd, vOr, vNot, mRet, mLst, mTwo, mSl, on1, lcB, e_on2, e_on4, pure_bind, bind_assoc, asB, asI, e_isO, e_calm, e_both, e_cB1, e_cB2, e_cB3, e_cB4, e_endr, e_endn, if_true, if_false, Bool.false_eq_true, Bool.not_true, Bool.not_false, it_lst, it_tup, d_lenl, d_lent, List.length_map, ix_t0, ix_t1, ix_l0, ix_l1, c_tupl, c_tupt, asQ, qList, qLen, d_addi, d_sub, d_gt, d_lt, d_le, d_ge, PD.eq_int, PD.ne_int, PD.eq_str, PD.ne_str, h, e_accK, d_lst [.bl x, .bl x] (by show 2 ≤ 16777216; decide), d_lst [.bl due, .bl due] (by show 2 ≤ 16777216; decide), e1, e2, e3]
theorem spread1 (m : List D → M D) (a : D) : cB 1 m (fun ds _ => ds) [a] = m [a] := rfl
theorem e_seen (n : Nat) (d : D) : cB 2 m__law_seen (fun ds _ => ds) [.id n, d] = m__law_seen [.id n, d] := rfl
def World (bs : List Bd) (d : D) : Prop := ∃ b ∈ bs, ∃ line fs, d = .tup [.str b.text, .lst (strsD b.sets), .lst (strsD line), .tup (prsD fs)] ∧ line.Perm b.sets ∧ FsOk b fs ∧ fitB line fs = true
theorem world_pos (n : Nat) (bs : List Bd) (hne : bs ≠ []) (hl : bs.length ≤ 100) (h : ∀ b ∈ bs, BdOk b ∧ LBd b ∧ b.sets.length ≤ 13) : Pos n (m__law_world [.id n, .lst (bs.map fun b => .str b.text)]) (World bs) := by
  unfold m__law_world
  simp only [aCons, aNil, pure_bind, bind_assoc, e_of]
  refine Pos.runS (Pos.bind (of_pos n _ (by simpa using hne) (by rw [List.length_map]; omega)) fun v hv => ?_)
  obtain ⟨b, hb, rfl⟩ := List.mem_map.mp hv
  obtain ⟨B, LB, hs⟩ := h b hb
  simp only [spread1, LB.spread, pure_bind, e_mixed]
  refine Pos.bind (mixed_pos n (strsD b.sets) (by rw [List.length_map]; omega)) fun d ⟨ys, e, p⟩ => ?_
  subst e
  obtain ⟨line, rfl, pl⟩ := perm_map_inv p
  simp only [mRet, bind_assoc, e_seen]
  refine Pos.bind (seen_pos B LB hs pl n) fun d ⟨fs, e, F, fit⟩ => ?_
  subst e
  rw [d_tup _ (by show 4 ≤ 16777216; decide)]
  exact Pos.pure ⟨_, rfl, b, hb, line, fs, rfl, pl, F, fit⟩
end G
namespace G
open PySem PySem.Spec L2 PD
open PyProof.Rows hiding St
theorem plain_strs (ys : List Str) : PyData.plainAll (pyAll (strsD ys)) = true := by
  induction ys with
  | nil => rfl
  | cons y ys ih => exact ih
theorem show_strs (ys : List Str) : PyData.showableAll (pyAll (strsD ys)) = true := by
  induction ys with
  | nil => rfl
  | cons y ys ih => exact ih
theorem nodict_strs (ys : List Str) : PyData.hasDictAll (pyAll (strsD ys)) = false := by
  induction ys with
  | nil => rfl
  | cons y ys ih => exact ih
theorem rep_strs (ys : List Str) (hne : ys ≠ []) (hl : ys.length ≤ 1000) (hr : ∀ s ∈ ys, 1 ≤ (PyData.shown (.str s)).length ∧ (PyData.shown (.str s)).length ≤ 10) : ∃ z, fRepr (.tup (strsD ys)) = pure (.str z) ∧ (z == ("()" : Str)) = false := by
  have e : (D.tup (strsD ys)).py.shown = tupleText (PyData.shownAll (pyAll (strsD ys))) := rfl
  have hpile : ∀ ys : List Str, (∀ s ∈ ys, 1 ≤ (PyData.shown (.str s)).length ∧ (PyData.shown (.str s)).length ≤ 10) → 3 * ys.length ≤ piled (PyData.shownAll (pyAll (strsD ys))) ∧ piled (PyData.shownAll (pyAll (strsD ys))) ≤ 12 * ys.length := by
    intro ys
    induction ys with
    | nil => intro _; exact ⟨Nat.le_refl _, Nat.le_refl _⟩
    | cons y ys ih =>
      intro h
      have h1 := h y (List.mem_cons_self ..)
      have h2 := ih fun s hs => h s (List.mem_cons_of_mem _ hs)
      have : piled (PyData.shownAll (pyAll (strsD (y :: ys)))) = (PyData.shown (.str y)).length + 2 + piled (PyData.shownAll (pyAll (strsD ys))) := by
        first | rfl | (show piled (_ :: _) = _; simp [piled]; omega)
      rw [List.length_cons]
      omega
  have hp := hpile ys hr
  have hpos : 0 < ys.length := List.length_pos_iff.mpr hne
  have hne2 : PyData.shownAll (pyAll (strsD ys)) ≠ [] := by
    cases ys with
    | nil => exact absurd rfl hne
    | cons _ _ => intro z; cases z
  have hj := join_length_add _ hne2
  have hlen : (D.tup (strsD ys)).py.shown.length = 1 + (Str.join ", " (PyData.shownAll (pyAll (strsD ys)))).length + (if (PyData.shownAll (pyAll (strsD ys))).length == 1 then 2 else 1) := by
    rw [e]
    unfold tupleText
    rw [TL.len_tl, TL.tl_append, TL.tl_append, List.length_append, List.length_append, ← TL.len_tl, ← TL.len_tl, ← TL.len_tl]
    congr 1
    cases (PyData.shownAll (pyAll (strsD ys))).length == 1 <;> rfl
  have b1 : 3 ≤ (D.tup (strsD ys)).py.shown.length := by rw [hlen]; split <;> omega
  have b2 : (D.tup (strsD ys)).py.shown.length ≤ 1000000 := by rw [hlen]; split <;> omega
  refine ⟨(D.tup (strsD ys)).py.shown, if_pos ?_, ?_⟩
  · unfold okRepr D.flat
    simp only [Bool.and_eq_true, decide_eq_true_eq, Bool.not_eq_true']
    refine ⟨⟨⟨⟨⟨dat_strs ys, plain_strs ys⟩, ?_⟩, show_strs ys⟩, nodict_strs ys⟩, len_line b2⟩
    show PyData.depthAll (pyAll (strsD ys)) + 1 ≤ 40
    rw [depth_strs]
    decide
  · rw [beq_eq_false_iff_ne]
    intro z
    rw [z] at b1
    have : ("()" : Str).length = 2 := by decide +kernel
    omega
def BentOk (x : D) : Prop := (∃ xs, x = .tup xs ∧ datAll xs = true ∧ xs.length ≤ 100) ∨ isiD (tblT "tuple" []) x = pure (.bl false)
theorem cut_map {α β : Type} (f : α → β) (xs : List α) (lo hi : Option Int) : cutL (xs.map f) lo hi = (cutL xs lo hi).map f := by
  unfold cutL
  simp only [List.map_take, List.map_drop, List.length_map]
theorem cut_len {α : Type} (xs : List α) (lo hi : Option Int) : (cutL xs lo hi).length ≤ xs.length := by
  unfold cutL
  rw [List.length_take, List.length_drop]
  omega
theorem dat_app {xs ys : List D} (h1 : datAll xs = true) (h2 : datAll ys = true) : datAll (xs ++ ys) = true := by
  rw [datAll_all] at *
  rw [List.all_append, h1, h2]
  rfl
theorem bent_strs {ys : List Str} (h : ys.length ≤ 100) : BentOk (.tup (strsD ys)) := .inl ⟨_, rfl, dat_strs ys, by rw [List.length_map]; exact h⟩
theorem insP_eq {xs : List D} {k : List D → M (Fl Unit)} {i : Int} {n : Nat} {v : D} (h0 : 0 ≤ i) (h1 : i < 100000) (hl : xs.length ≤ 100000) : insP xs k (.int i) (some (n, v)) = k ((xs.eraseIdx n).take i.toNat ++ [v] ++ (xs.eraseIdx n).drop i.toNat) := by
  unfold insP
  exact if_pos ⟨h0, by omega, lt_line (by have := List.length_eraseIdx_le xs n; omega)⟩
theorem bent_pos (n : Nat) {ys : List Str} (hne : ys ≠ []) (hl : ys.length ≤ 13) (hsm : ∀ s ∈ ys, s.length ≤ 5) : Pos n (m__law_bent_line [.id n, .lst (strsD ys)]) BentOk := by
  have hpos : 0 < ys.length := List.length_pos_iff.mpr hne
  unfold m__law_bent_line
  simp only [mTwo, aCons, aNil, pure_bind, d_lenl, List.length_map, e_take]
  refine Pos.runS (Pos.bind (take_pos n 9 (by decide) (by decide)) fun d ⟨way, e, w0, w1⟩ => Pos.bind (take_pos n (ys.length : Nat) (by omega) (by omega)) fun d2 ⟨k, e2, k0, k1⟩ => ?_)
  subst e e2
  have ek : D.int k = D.int ((k.toNat : Nat) : Int) := by rw [Int.toNat_of_nonneg k0]
  have hk : k.toNat < ys.length := by omega
  have gk : (strsD ys)[k.toNat]? = some (.str ys[k.toNat]) := by rw [List.getElem?_map, List.getElem?_eq_getElem hk]; rfl
  have g0 : (strsD ys)[0]? = some (.str ys[0]) := by rw [List.getElem?_map, List.getElem?_eq_getElem hpos]; rfl
  have hlk := hsm ys[k.toNat] (List.getElem_mem hk)
  have e10 : ("0" : Str).length = 1 := by decide +kernel
  have e00 : ("" : Str).length = 0 := by decide +kernel
  have hsum : (ys.map (·.length)).sum + ys.length * ("" : Str).length ≤ 1000000 := by
    have : ∀ l : List Str, (∀ s ∈ l, s.length ≤ 5) → (l.map (·.length)).sum ≤ 5 * l.length := by
      intro l
      induction l with
      | nil => intro _; exact Nat.le_refl _
      | cons x l ih =>
        intro h
        have h1 := h x (List.mem_cons_self ..)
        have h2 := ih fun s hs => h s (List.mem_cons_of_mem _ hs)
        rw [List.map_cons, List.sum_cons, List.length_cons]
        omega
    have := this ys hsm
    rw [e00]
    omega
  have ix0 : dIxA (.lst (strsD ys)) (.int 0) = pure (.str ys[0]) := ix_lstN (i := 0) g0
  have ixk : dIxA (.lst (strsD ys)) (.int ((k.toNat : Nat) : Int)) = pure (.str ys[k.toNat]) := ix_lstN gk
  rw [ek]
  -- the first way
  refine Pos.seqF (R := BentOk) (I := fun _ => True) ?_ (fun _ _ => ?_) (fun d h => ⟨d, rfl, h⟩)
  · simp only [b2, b1, pure_bind, PD.eq_int, asB, mIf]
    by_cases c0 : way = 0
    · simp only [decide_eq_true c0, if_true, pure_bind, asQ, qList, mLst, asI, mSl, dSl, bind_assoc, c_tupl, ixk, d_tup [D.str ys[k.toNat]] (by show 1 ≤ 16777216; decide), d_addt (strsD ys) [D.str ys[k.toNat]] (by rw [List.length_map, List.length_singleton]; exact len_line (by omega)), e_kjoin, d_join _ _ hsum, d_tup [] (by show 0 ≤ 16777216; decide)]
      rw [d_lst _ (by show 7 ≤ 16777216; decide)]
      simp only [pure_bind, e_of]
      refine Pos.mRet (of_pos n _ (by simp) (by simp)) fun d hd => .inr ⟨d, rfl, ?_⟩
      simp only [List.mem_cons, List.not_mem_nil, or_false] at hd
      rcases hd with h | h | h | h | h | h | h <;> subst h
      · exact .inr rfl
      · rw [cut_map]
        exact bent_strs (Nat.le_trans (cut_len ..) (by omega))
      · exact .inl ⟨_, rfl, dat_app (dat_strs ys) rfl, by rw [List.length_append, List.length_map, List.length_singleton]; omega⟩
      · exact .inr rfl
      · exact .inr rfl
      · exact .inl ⟨_, rfl, rfl, by simp⟩
      · exact bent_strs (by omega)
    · simp only [decide_eq_false c0, Bool.false_eq_true, if_false, pure_bind]
      exact Pos.pure (.inl ⟨_, rfl, trivial⟩)
  · refine Pos.seqF (R := BentOk) (I := fun _ => True) ?_ (fun _ _ => ?_) (fun d h => ⟨d, rfl, h⟩)
    · simp only [b2, b1, pure_bind, PD.eq_int, asB, mIf]
      by_cases c1 : way = 1
      · have l1 : ys[k.toNat].length + ("0" : Str).length ≤ sizeLine := by rw [e10]; exact len_line (by omega)
        simp only [decide_eq_true c1, if_true, pure_bind, bind_assoc, ix0, ixk, d_adds _ _ l1, d_tup [D.str ys[k.toNat]] (by show 1 ≤ 16777216; decide)]
        rw [d_lst _ (by show 5 ≤ 16777216; decide)]
        simp only [pure_bind, e_of]
        refine Pos.bind (of_pos n _ (by simp) (by simp)) fun d hd => ?_
        have hdd : d.dat = true := by
          simp only [List.mem_cons, List.not_mem_nil, or_false] at hd
          rcases hd with h | h | h | h | h <;> subst h <;> rfl
        have z1 : (cutL (strsD ys) none (some ((k.toNat : Nat) : Int))).length ≤ 13 := Nat.le_trans (cut_len ..) (by rw [List.length_map]; omega)
        have z2 : (cutL (strsD ys) (some (((k.toNat : Nat) : Int) + 1)) none).length ≤ 13 := Nat.le_trans (cut_len ..) (by rw [List.length_map]; omega)
        simp only [mSl, asI, dSl, pure_bind, c_tupl, d_tup [d] (by show 1 ≤ 16777216; decide), d_addi, mRet, d_addt (cutL (strsD ys) none (some ((k.toNat : Nat) : Int))) [d] (by rw [List.length_singleton]; exact len_line (by omega)), d_addt (cutL (strsD ys) none (some ((k.toNat : Nat) : Int)) ++ [d]) (cutL (strsD ys) (some (((k.toNat : Nat) : Int) + 1)) none) (by rw [List.length_append, List.length_singleton]; exact len_line (by omega))]
        refine Pos.pure (.inr ⟨_, rfl, .inl ⟨_, rfl, ?_, by rw [List.length_append, List.length_append, List.length_singleton]; omega⟩⟩)
        rw [cut_map, cut_map]
        refine dat_app (dat_app (dat_strs _) ?_) (dat_strs _)
        show (d.dat && true) = true
        rw [hdd]
        rfl
      · simp only [decide_eq_false c1, Bool.false_eq_true, if_false, pure_bind]
        exact Pos.pure (.inl ⟨_, rfl, trivial⟩)
    · refine Pos.seqF (R := BentOk) (I := fun _ => True) ?_ (fun _ _ => ?_) (fun d h => ⟨d, rfl, h⟩)
      · simp only [b2, b1, pure_bind, d_lt, asB, mIf]
        by_cases c5 : way < 5
        · simp only [decide_eq_true c5, if_true, pure_bind, asQ, qList, mInsP, e_take]
          refine Pos.bind (take_pos n (ys.length : Nat) (by omega) (by omega)) fun d ⟨r, er, r0, r1⟩ => ?_
          subst er
          obtain ⟨v, hv, hp⟩ := pick_eq (ys := strsD ys) (r := ((k.toNat : Nat) : Int)) (by omega) (by rw [List.length_map]; omega) (by rw [List.length_map]; omega)
          rw [hp, insP_eq r0 (by omega) (by rw [List.length_map]; omega)]
          simp only [mRet, qTuple, if_true, pure_bind]
          have hmem : ∀ x ∈ (((strsD ys).eraseIdx (((k.toNat : Nat) : Int)).toNat).take r.toNat ++ [v] ++ ((strsD ys).eraseIdx (((k.toNat : Nat) : Int)).toNat).drop r.toNat), x ∈ strsD ys := fun x hx => by
            rcases List.mem_append.mp hx with h | h
            · rcases List.mem_append.mp h with h | h
              · exact List.mem_of_mem_eraseIdx (List.mem_of_mem_take h)
              · rw [List.mem_singleton.mp h]
                exact List.mem_of_getElem? hv
            · exact List.mem_of_mem_eraseIdx (List.mem_of_mem_drop h)
          refine Pos.pure (.inr ⟨_, rfl, .inl ⟨_, rfl, ?_, ?_⟩⟩)
          · rw [datAll_all, List.all_eq_true]
            intro x hx
            obtain ⟨s, _, rfl⟩ := List.mem_map.mp (hmem x hx)
            rfl
          · have := List.length_eraseIdx_le (strsD ys) (((k.toNat : Nat) : Int)).toNat
            rw [List.length_map] at this
            simp only [List.length_append, List.length_take, List.length_drop, List.length_singleton]
            omega
        · simp only [decide_eq_false c5, Bool.false_eq_true, if_false, pure_bind]
          exact Pos.pure (.inl ⟨_, rfl, trivial⟩)
      · simp only [b2, b1, pure_bind, PD.eq_int, asB, mIf, mRet, dRev, c_tupl]
        by_cases c5 : way = 5
        · simp only [decide_eq_true c5, if_true, pure_bind]
          refine Pos.pure ⟨_, rfl, ?_⟩
          rw [← List.map_reverse]
          exact bent_strs (by rw [List.length_reverse]; omega)
        · simp only [decide_eq_false c5, Bool.false_eq_true, if_false, pure_bind]
          exact Pos.pure ⟨_, rfl, bent_strs (by omega)⟩
theorem e_bent (n : Nat) (d : D) : cB 2 m__law_bent_line (fun ds _ => ds) [.id n, d] = m__law_bent_line [.id n, d] := rfl
theorem e_world (n : Nat) (d : D) : cB 2 m__law_world (fun ds _ => ds) [.id n, d] = m__law_world [.id n, d] := rfl
def menuB : List Bd := [bd2, bd3, bd22, bd32, bd23, bd22]
structure MOk (b : Bd) : Prop where
  ok : BdOk b
  law : LBd b
  len : b.sets.length ≤ 6
  pos : 0 < b.sets.length
  rep : ∀ s ∈ b.sets, 1 ≤ (PyData.shown (.str s)).length ∧ (PyData.shown (.str s)).length ≤ 10
  sm : ∀ s ∈ b.sets, s.length ≤ 5
theorem m2 : MOk bd2 := ⟨bd2_ok, bd2_law, by decide, by decide, bd2_rep, by decide +kernel⟩
theorem m3 : MOk bd3 := ⟨bd3_ok, bd3_law, by decide, by decide, bd3_rep, by decide +kernel⟩
theorem m22 : MOk bd22 := ⟨bd22_ok, bd22_law, by decide, by decide, bd22_rep, by decide +kernel⟩
theorem m32 : MOk bd32 := ⟨bd32_ok, bd32_law, by decide, by decide, bd32_rep, by decide +kernel⟩
theorem m23 : MOk bd23 := ⟨bd23_ok, bd23_law, by decide, by decide, bd23_rep, by decide +kernel⟩
theorem menu_ok : ∀ b ∈ menuB, MOk b := fun b hb => by
  simp only [menuB, List.mem_cons, List.not_mem_nil, or_false] at hb
  rcases hb with h | h | h | h | h | h <;> subst h
  · exact m2
  · exact m3
  · exact m22
  · exact m32
  · exact m23
  · exact m22
def EmOk (x : D) : Prop := ∃ e z, m_is_empty [x] = pure (.bl e) ∧ fRepr x = pure (.str z) ∧ (z == ("()" : Str)) = e
theorem em1 : EmOk (.tup []) := ⟨true, "()", by kernel_rfl, by kernel_rfl, by decide +kernel⟩
theorem em2 : EmOk (.lst []) := ⟨false, "[]", by kernel_rfl, by kernel_rfl, by decide +kernel⟩
theorem em3 : EmOk .non := ⟨false, "None", by kernel_rfl, by kernel_rfl, by decide +kernel⟩
theorem em4 : EmOk (.tup [.tup []]) := ⟨false, "((),)", by kernel_rfl, by kernel_rfl, by decide +kernel⟩
theorem em5 : EmOk (.str "") := ⟨false, "''", by kernel_rfl, by kernel_rfl, by decide +kernel⟩
theorem em6 {ys : List Str} (hne : ys ≠ []) (hl : ys.length ≤ 1000) (hr : ∀ s ∈ ys, 1 ≤ (PyData.shown (.str s)).length ∧ (PyData.shown (.str s)).length ≤ 10) : EmOk (.tup (strsD ys)) := by
  obtain ⟨z, h1, h2⟩ := rep_strs ys hne hl hr
  refine ⟨false, z, ?_, h1, h2⟩
  have c : D.cok (.tup (strsD ys)) (.tup []) = true := by
    unfold D.cok
    simp only [Bool.and_eq_true, decide_eq_true_eq]
    refine ⟨⟨⟨dat_strs ys, rfl⟩, ?_⟩, ?_⟩
    · show SeqAt.mixAll (pyAll (strsD ys)) [] = true
      cases ys <;> rfl
    · show PyData.depthAll (pyAll (strsD ys)) + 1 ≤ 40
      rw [depth_strs]
      decide
  have e : dEq (.tup (strsD ys)) (.tup []) = pure (.bl false) := by
    rw [d_eq _ _ c]
    cases ys with
    | nil => exact absurd rfl hne
    | cons _ _ => rfl
  have e2 : isiD (tblT "tuple" []) (.tup (strsD ys)) = pure (.bl true) := rfl
  unfold m_is_empty
  simp only [runS, seqF, b1, b2, aCons, aNil, mIf, mAnd, mOr, mNot, vAnd, vOr, vNot, mRet, mLst, mTwo, mSl, on1, lcB, e_on2, e_on4, pure_bind, bind_assoc, asB, asI, e_isO, e_calm, e_both, e_cB1, e_cB2, e_cB3, e_cB4, e_endr, e_endn, if_true, if_false, Bool.false_eq_true, Bool.not_true, Bool.not_false, it_lst, it_tup, d_lenl, d_lent, List.length_map, ix_t0, ix_t1, ix_l0, ix_l1, c_tupl, c_tupt, asQ, qList, qLen, d_addi, d_sub, d_gt, d_lt, d_le, d_ge, PD.eq_int, PD.ne_int, PD.eq_str, PD.ne_str, e, e2, d_tup [] (by show 0 ≤ 16777216; decide)]
theorem vand_bl (x y : Bool) {m : M D} (h : x = true → m = pure (.bl y)) : vAnd (pure (.bl x)) m = pure (.bl (x && y)) := by
  cases x with
  | false => rfl
  | true =>
    rw [h rfl]
    rfl
theorem int_one (k : Nat) : decide (((k : Nat) : Int) = 1) = decide (k = 1) := by
  rw [Bool.eq_iff_iff, decide_eq_true_eq, decide_eq_true_eq]
  omega
theorem one_lt (k : Nat) : decide ((1 : Int) < ((k : Nat) : Int)) = decide (1 < k) := by
  rw [Bool.eq_iff_iff, decide_eq_true_eq, decide_eq_true_eq]
  omega
theorem bent_isi {x : D} (h : BentOk x) : ∃ t, isiD (tblT "tuple" []) x = pure (.bl t) := by
  rcases h with ⟨xs, rfl, _, _⟩ | h
  · exact ⟨true, rfl⟩
  · exact ⟨false, h⟩
section
variable {b : Bd} (M : MOk b) {fs : Fs} (F : FsOk b fs) {line : List Str} (pl : line.Perm b.sets) (fit : fitB line fs = true)
include M F
theorem k_tops {l : List Str} (p : l.Perm b.sets) : m__law_tops [.lst (strsD l), .lst (strsD b.sets)] = pure (.lst (strsD (topsL b l))) :=
  ltops_eq M.ok M.law (fun k hk => by rw [pure_bind]; exact idx_lst l k hk (by have := p.length_eq; have := M.len; omega)) fun s h => p.mem_iff.mpr h
theorem k_topsT {l : List Str} (p : l.Perm b.sets) : m__law_tops [.tup (strsD l), .lst (strsD b.sets)] = pure (.lst (strsD (topsL b l))) :=
  ltops_eq M.ok M.law (fun k hk => by rw [pure_bind]; exact idx_tup l k hk (by have := p.length_eq; have := M.len; omega)) fun s h => p.mem_iff.mpr h
include pl fit
theorem one_is : ((linesN b.sets fs b.sets.length).all fun l => decide (((topsL b l).length : Nat) = 1)) = !twoB b fs := by
  have h := two_lines M.ok F pl fit
  cases e : twoB b fs with
  | true =>
    obtain ⟨l, h1, h2⟩ := h.mp e
    rw [Bool.not_true, Bool.eq_false_iff]
    intro z
    exact h2 (of_decide_eq_true (List.all_eq_true.mp z l h1))
  | false =>
    rw [Bool.not_false, List.all_eq_true]
    intro l hl
    rw [decide_eq_true_eq]
    refine Classical.byContradiction fun z => ?_
    have := h.mpr ⟨l, hl, z⟩
    rw [e] at this
    cases this
theorem two_due {x : D} (hx : BentOk x) : ∃ g a : Bool, vAnd (m__law_is_line [.lst (strsD b.sets), x]) (m__law_fits [x, .tup (prsD fs)]) = pure (.bl g) ∧
    vAnd (pure (.bl g)) (b2 dGt (m__law_tops [x, .lst (strsD b.sets)] >>= fun x => dLen [x]) (pure (.int 1))) = pure (.bl a) ∧
    m__law_said [.tup [.str "two", .str (sheetS b.text fs)], x, .bl a] = pure (.bl true) := by
  have B := M.ok
  have hs := M.len
  rcases hx with ⟨xs, rfl, hd, hl⟩ | h
  · have e1 := isline_eq (sets := b.sets) (by omega) hd
    have e2 := order_eq B hd (by omega)
    rw [line_ord B] at e1
    cases ho : isOrd b (.tup xs) with
    | false =>
      rw [ho] at e1 e2
      refine ⟨false, false, ?_, rfl, ?_⟩
      · rw [e1]
        rfl
      · rw [said_eq (acc_two_bad B F pl fit e2)]
        rfl
    | true =>
      rw [ho] at e1 e2
      obtain ⟨ys, rfl, py⟩ := (isOrd_iff B).mp ho
      have ly := py.length_eq
      have e3 := lfits_eq (ys := ys) (fs := fs) (fun f hf => ⟨py.mem_iff.mpr (F.mem f hf).1, py.mem_iff.mpr (F.mem f hf).2.1⟩) F.few (by omega)
      refine ⟨fitB ys fs, fitB ys fs && decide (1 < (topsL b ys).length), ?_, vand_bl _ _ fun _ => ?_, ?_⟩
      · rw [e1, e3]
        rfl
      · rw [k_topsT M F py]
        simp only [b2, pure_bind, d_lenl, d_gt, List.length_map, one_lt]
      · rw [said_eq (acc_two_good B F pl fit py), beq_self_eq_true]
  · refine ⟨false, false, ?_, rfl, ?_⟩
    · rw [isline_no h]
      rfl
    · rw [said_eq (acc_two_bad B F pl fit (order_no h))]
      rfl
end
theorem right_pos (n : Nat) : Pos n (m__law_right [.id n]) fun d => d = .bl true := by
  unfold m__law_right
  simp only [aCons, aNil, pure_bind, (rng1 4 (by decide) : fRange1 [.int 4] = _)]
  rw [d_lst _ (by show 6 ≤ 16777216; decide)]
  refine Pos.runS (Pos.seqF (R := fun _ => False) (I := fun _ => True) (Pos.forD (fun _ _ => True) (fun d ds s _ => ?_) _ _ trivial) (fun t _ => Pos.pure ⟨_, rfl, rfl⟩) fun d h => h.elim)
  simp only [on1, pure_bind, e_world]
  refine Pos.bind (world_pos n menuB (by decide) (by decide) fun b hb => ⟨(menu_ok b hb).ok, (menu_ok b hb).law, Nat.le_trans (menu_ok b hb).len (by decide)⟩) fun w hw => ?_
  obtain ⟨b, hb, line, fs, rfl, pl, F, fit⟩ := hw
  have M := menu_ok b hb
  have B := M.ok
  have LB := M.law
  have hs := M.len
  have hp := M.pos
  have hlines := lines_eq M.len M.pos F.few
  have nlines : (linesN b.sets fs b.sets.length).length ≤ 46656 := Nat.le_trans (lines_len ..) (Nat.le_trans (Nat.pow_le_pow_left M.len _) (Nat.le_trans (Nat.pow_le_pow_right (by decide) M.len) (by decide)))
  simp only [e_on4, mTwo, e_cB2, sheet_eq B F, hlines, pure_bind, b1, it_lst, mLst]
  have hperm : ∀ l ∈ linesN b.sets fs b.sets.length, l.Perm b.sets := fun l hl => ((line_mem B F).mp hl).1
  have ll := pl.length_eq
  have lne : line ≠ [] := fun z => by rw [z] at ll; simp at ll; omega
  rw [lc_map (b := fun d => lcB (fun c7 => pure true) (fun c7 => b2 dEq (m__law_tops [c7, D.lst (strsD b.sets)] >>= fun x => dLen [x]) (pure (D.int 1))) d) (h := fun l => D.bl (decide ((topsL b l).length = 1))) (linesN b.sets fs b.sets.length) (fun l hl => by
    simp only [lcB, pure_bind, if_true, k_tops M F (hperm l hl), b2, d_lenl, PD.eq_int, List.length_map, int_one]) (by omega)]
  simp only [pure_bind, f_all' (linesN b.sets fs b.sets.length) (fun l => decide ((topsL b l).length = 1)), one_is M F pl fit, d_tup [] (by show 0 ≤ 16777216; decide), d_lst [] (by show 0 ≤ 16777216; decide), d_tup [D.tup []] (by show 1 ≤ 16777216; decide), c_tupl, bind_assoc]
  rw [d_lst _ (by show 6 ≤ 16777216; decide)]
  simp only [pure_bind, it_lst]
  have one : forD (S := Unit) (fun x d => mIf (mNot (dTup [D.str ("one" : Str), D.str (sheetS b.text fs)] >>= fun x => vAnd (pure (D.bl (!twoB b fs))) (b2 dEq (fRepr d) (pure (D.str ("()" : Str)))) >>= fun x_1 => cB 3 m__law_said (fun ds x => ds) [x, d, x_1] >>= asB)) (mRet (pure (D.bl false))) (pure (Fl.nx ()))) [D.tup [], D.lst [], D.non, D.tup [D.tup []], D.tup (strsD line), D.str ("" : Str)] () = pure (.nx ()) := by
    refine for_all (f := fun d : D => d) [D.tup [], D.lst [], D.non, D.tup [D.tup []], D.tup (strsD line), D.str ("" : Str)] fun x hx => ?_
    have hem : EmOk x := by
      simp only [List.mem_cons, List.not_mem_nil, or_false] at hx
      rcases hx with h | h | h | h | h | h <;> subst h
      · exact em1
      · exact em2
      · exact em3
      · exact em4
      · exact em6 lne (by omega) fun s h => M.rep s (pl.mem_iff.mp h)
      · exact em5
    obtain ⟨e, z, h1, h2, h3⟩ := hem
    have h4 : b2 dEq (fRepr x) (pure (D.str ("()" : Str))) = pure (.bl e) := by
      rw [h2]
      simp only [b2, pure_bind, PD.eq_str, h3]
    have h5 := said_eq (acc_one B F pl fit h1) (!twoB b fs && e)
    rw [Bool.and_comm e, beq_self_eq_true] at h5
    simp only [d_tup [D.str ("one" : Str), D.str (sheetS b.text fs)] (by show 2 ≤ 16777216; decide), pure_bind, vand_bl (!twoB b fs) e (fun _ => h4), bind_assoc, e_cB3, h5, asB, mNot, mIf, Bool.not_true, Bool.false_eq_true, if_false]
  rw [one]
  simp only [seqF, pure_bind, (rng1 6 (by decide) : fRange1 [.int 6] = _)]
  refine Pos.bind (Pos.forD (R := fun _ => False) (fun _ _ => True) (fun d ds s _ => ?_) _ _ trivial) fun r hr => ?_
  · have hln : line ∈ linesN b.sets fs b.sets.length := (line_mem B F).mpr ⟨pl, fit⟩
    have one_of : Pos n (m__law_of [.id n, .lst (lsD (linesN b.sets fs b.sets.length))]) fun d => ∃ l, d = .lst (strsD l) ∧ l.Perm b.sets :=
      (of_pos n _ (fun z => by rw [List.map_eq_nil_iff] at z; rw [z] at hln; cases hln) (by rw [List.length_map]; omega)).mono fun d hd => by
        obtain ⟨l, hl, rfl⟩ := List.mem_map.mp hd
        exact ⟨l, rfl, hperm l hl⟩
    refine Pos.bind one_of fun d1 ⟨l1, e1, p1⟩ => Pos.bind one_of fun d2 ⟨l2, e2, p2⟩ => Pos.bind (mixed_pos n (strsD b.sets) (by rw [List.length_map]; omega)) fun d3 ⟨ys, e3, p3⟩ => ?_
    obtain ⟨l3, rfl, p4⟩ := perm_map_inv p3
    subst e1 e2 e3
    rw [d_lst _ (by show 4 ≤ 16777216; decide)]
    simp only [pure_bind]
    refine Pos.bind (of_pos n _ (by simp) (by simp)) fun v12 hv => ?_
    have hv2 : ∃ l, v12 = .lst (strsD l) ∧ l.Perm b.sets := by
      simp only [List.mem_cons, List.not_mem_nil, or_false] at hv
      rcases hv with h | h | h | h <;> subst h
      · exact ⟨_, rfl, pl⟩
      · exact ⟨_, rfl, p1⟩
      · exact ⟨_, rfl, p2⟩
      · exact ⟨_, rfl, p4⟩
    obtain ⟨l, rfl, pq⟩ := hv2
    have lq := pq.length_eq
    refine Pos.bind (bent_pos n (ys := l) (fun z => by rw [z] at lq; simp at lq; omega) (by omega) fun s h => M.sm s (pq.mem_iff.mp h)) fun x hx => ?_
    obtain ⟨g, a, h1, h2, h3⟩ := two_due M F pl fit hx
    simp only [h1, pure_bind, d_tup [D.str ("two" : Str), D.str (sheetS b.text fs)] (by show 2 ≤ 16777216; decide), h2, e_cB3, h3, asB, mNot, mIf, Bool.not_true, Bool.false_eq_true, if_false]
    exact Pos.pure (.inl ⟨_, .inl rfl, trivial⟩)
  · rcases hr with ⟨t, rfl, _⟩ | ⟨d, rfl, h⟩
    · exact Pos.pure (.inl ⟨_, .inl rfl, trivial⟩)
    · exact h.elim
theorem law_ev (ns : List Int) (h : ns.length ≤ 63) : ∃ g, m_law [.scr (ns.map D.int)] [] = .ok (.bl true) g := by
  obtain ⟨g', e⟩ := all_ev m__law_right right_pos ns h 5 (by decide) (by decide) []
  refine ⟨g', ?_⟩
  show Ev (m_law [.scr (ns.map D.int)]) [] (.bl true) g'
  unfold m_law
  refine Ev.runS ?_
  refine Ev.bind (a := .str "board 22\n01 < 00\n10 < 00\n01 < 11") (g1 := []) Ev.pure (Ev.bind (a := .lst [.bl true, .bl false]) (g1 := []) ?_ (Ev.bind (a := .lst [.bl true, .bl false, .bl false, .bl true]) (g1 := []) ?_ (Ev.seqF (t := ()) (g1 := []) ?_ (Ev.mRet e))))
  · unfold Ev
    kernel_rfl
  · unfold Ev
    kernel_rfl
  · unfold Ev
    kernel_rfl
end G
theorem PySem.Challenge.cw_switchhills_k70_whole_one_and_two_judged_holds : PySem.Challenge.rw_switchhills_k70_whole_one_and_two_judged.Holds := by
  exact G.law_of G.law_ev
