import PyProof.Rows.All
import HandS.Zip
import HandS.Walk
import PyProof.Draws
import HandS.Style
import HandS.TupAny
import HandS.Conv
import HandS.Iter
import HandS.ForMost
import HandS.FStr
import HandS.Deep
import HandS.Star
import HandS.RaiseMore
import HandS.Property
import HandS.More
import HandS.Codes
import HandS.ClsMeth
import PyProof.ReprRoads
import KE.KUnpackStar
import HandS.SetFor
import PyProof.ListStr
import KE.KDictPairs
import KE.KOpsOwn
import PyProof.TupleOps
import HandS.IsInst
import HandS.Dict
import HandS.TupLe
import HandS.FltList
import PyProof.MinMaxWalk
import HandS.Words
import KE.KxText
import Wide.All
import OpenK.AllK
import Wide.FinOn
import PySem.Challenge.RW_dirtytests_k63_what_is_to_blame
set_option Elab.async false
set_option linter.all false
set_option maxRecDepth 100000
set_option maxHeartbeats 1000000
section
/-! enumerate of a tuple; the walk over zip of two tuples. -/
namespace DT
open PySem
open PySem.Sem (wp)
open AutoSeq1 (wpAny_loadPart')
theorem meets_enumerate_newT (l : Addr) (items : Array Value) (n : Nat) (dct : Option Addr) (sl : Array (Option Value)) :
    Meets (Builtin.«enumerate.__new__» ⟨[.type "enumerate", .ref l], []⟩) (fun _ R s => s.heap.get? l = some { cls := .type "tuple", dict := dct, data := .seq items n, slots := sl } ∧
      R (.ok (.ret (.ref (s.heap.push { cls := .type "tuple_iterator", data := .fields #[.ref l, .int 0 0] }).objs.size)))
        { s with heap := (s.heap.push { cls := .type "tuple_iterator", data := .fields #[.ref l, .int 0 0] }).push { cls := .type "enumerate", data := .fields #[.none, .bool false, .ref s.heap.objs.size, rawInt 0, .none, .none] } }) :=
  .of_wp fun prog w A R s h => by
    obtain ⟨hp, g, d, tk, os⟩ := s; obtain ⟨hl, h⟩ := h
    have hsub := sub_enumerate
    have hL : Heap.IsTuple (Shared.heap ⟨hp, g, d, tk, os⟩) l items := ⟨_, hl, rfl, n, rfl⟩
    wp_walk using wpAny_loadPart' hl
    refine wpAny_stack_any fun st => wpAny_pure ?_
    split
    · rename_i c _ _ _ _ _
      cases (c == Value.type "enumerate")
      · wp_walk using wpAny_loadPart' hl, wpAny_pyIter_tuple hL
        exact ⟨_, rfl, h⟩
      · wp_walk using wpAny_loadPart' hl, wpAny_pyIter_tuple hL
        exact ⟨_, rfl, h⟩
    · wp_walk using wpAny_loadPart' hl, wpAny_pyIter_tuple hL
      exact ⟨_, rfl, h⟩
section
variable {prog : Program} {w : World} {A : Around} {E : Value → Shared → Prop} {s : Shared}
theorem call_enumerate_tup {l : Addr} {items : Array Value} {Q : Value → Shared → Prop} (hL : s.heap.IsTuple l items)
    (h : ∀ h', IsEnum h' (s.heap.objs.size + 1) s.heap.objs.size 0 .none → h'.IsTupleIter s.heap.objs.size l 0 → h'.objs.size = s.heap.objs.size + 2 →
      (∀ b o, s.heap.get? b = some o → h'.get? b = some o) → Q (.ref (s.heap.objs.size + 1)) { s with heap := h' }) :
    wpAny (model prog w) A (call (.type "enumerate") [.ref l]) Q E s := by
  obtain ⟨⟨c, dct, dt, sl⟩, hl, hc, n, hd⟩ := hL
  replace hc : c = .type "tuple" := hc
  replace hd : dt = .seq items n := hd
  subst hc hd
  refine callType_new F.called_enumerate (by decide) (F.typeCall_enumerate_1 _) (F.newCall_enumerate_1 _) (fun obj => F.args_object_init_2 obj _) F.entry_enumerate_new
    (meets_enumerate_newT l items n dct sl) ⟨hl, ?_⟩
  have hz : (s.heap.push { cls := .type "tuple_iterator", data := .fields #[.ref l, .int 0 0] }).objs.size = s.heap.objs.size + 1 := Heap.size_push ..
  show _ ∧ _
  rw [hz]
  have he : IsEnum ((s.heap.push { cls := .type "tuple_iterator", data := .fields #[.ref l, .int 0 0] }).push
      { cls := .type "enumerate", data := .fields #[.none, .bool false, .ref s.heap.objs.size, rawInt 0, .none, .none] }) (s.heap.objs.size + 1) s.heap.objs.size 0 .none := by
    have := Heap.get?_push_size (s.heap.push { cls := .type "tuple_iterator", data := .fields #[.ref l, .int 0 0] })
      (o := { cls := .type "enumerate", data := .fields #[.none, .bool false, .ref s.heap.objs.size, rawInt 0, .none, .none] }) rfl
    rw [hz] at this; exact this
  refine ⟨⟨_, he, rfl⟩, h _ he ⟨_, Heap.get?_push_of_some _ (Heap.get?_push_size _ rfl), rfl, rfl⟩ (by rw [Heap.size_push, hz]) fun b o x => Heap.get?_push_of_some _ (Heap.get?_push_of_some _ x)⟩
theorem drawsT {A : Around} (hh : A.handled = none) (it l : Addr) (hne : l ≠ it) (items : Array Value) :
    Draws prog w A it [it, l] items.size (fun i v => items[i]? = some v) (fun i h => h.IsTupleIter it l i ∧ h.IsTuple l items) where
  live := fun _ _ st => let ⟨o, ho, _⟩ := st.1; ⟨o, ho⟩
  frame := fun _ _ _ st hk => ⟨st.1.at fun o e => hk it (by simp) o e, let ⟨o, ho, r⟩ := st.2; ⟨o, hk l (by simp) o ho, r⟩⟩
  item := fun i s Q E hi st hQ => by
    refine RZ.nextOf_tuple_item st.1 st.2 (x := items[i]) (by simp [hi]) fun h' hit' hs' => ?_
    exact hQ _ h' s.toks (by simp [hi]) ⟨hit', let ⟨o, ho, r⟩ := st.2; ⟨o, (hs'.2 l hne).trans ho, r⟩⟩ hs'
  done := fun s Q E st hE => RZ.nextOf_tuple_end hh st.1 st.2 (by simp) hE
end
end DT
namespace DT
open PySem PySem.Spec PyProof.Rows L2
/-- the tuple xs whose object is o -/
abbrev tf (o : Obj) (xs : List V) : HO := .frz o (.tup xs)
theorem sqT_f {K : PySem.W.Frag} {H : Hp} {a : Addr} {o : Obj} {xs : List V} (h : H a = some (tf o xs)) : SqT K H a xs := .inl (.inr ⟨o, h⟩)
/-- a new tuple, for what is wanted behind it -/
def newT (xs : List V) (H : Hp) (Q : VK) : Prop := ∀ p o, H p = none → o.dict = none → Q (.ref p) (upd H p (tf o xs))
theorem tf_ok {P : Program} {w : World} {H : Hp} {h : Heap} {a : Addr} {xs : List V} {its : List Value} {n : Nat} (hz : xs.length ≤ sizeLine) (r : Vals xs its) (e : h.get? a = some { cls := .type "tuple", data := .seq its.toArray n }) :
    ObjOk P w H h a (tf { cls := .type "tuple", data := .seq its.toArray n } xs) := ⟨e, hz, its, r, ⟨_, e, rfl, _, rfl⟩⟩
/-- the tuple at a, each item in a new pair -/
def IteT (K : PySem.W.Frag) (a : Addr) : It :=
  ⟨fun i H => ∃ (xs : List V) (x : V), SqT K H a xs ∧ xs[i]? = some x, fun i H v H' => ∃ T o x, v = .ref T ∧ H T = none ∧ o.dict = none ∧ H' = upd H T (tf o [.int (i : Nat), x]) ∧ ∀ xs, SqT K H a xs → xs[i]? = some x, fun i H => ∃ xs : List V, SqT K H a xs ∧ xs.length ≤ i⟩
theorem turn_enumT {P : Program} {w : World} {K : PySem.W.Frag} {elts : List Expr} {kk : Nat} {tpos : Pos} (a e it : Addr) :
    Turn P w K (.Tuple elts kk tpos) (IteT K a) [e, it] e (fun i h => (∃ old, IsEnum h e it ((i : Nat) : Int) old) ∧ h.IsTupleIter it a i ∧ e ≠ it ∧ a ≠ it ∧ a ≠ e) where
  mem := by simp
  obj := fun i h st b hb => by
    obtain ⟨⟨old, he⟩, ⟨o, ho, hc, hd⟩, _⟩ := st
    have e' : b = e ∨ b = it := by simpa using hb
    rcases e' with z | z
    · rw [z]; exact ⟨_, he, fun v q => nomatch q⟩
    · rw [z]; exact ⟨o, ho, fun v q => by rw [hd] at q; cases q⟩
  keep := fun i h h' st k => let ⟨⟨old, he⟩, hi, hne⟩ := st; ⟨⟨old, k e (by simp) _ he⟩, hi.at fun o q => k it (by simp) o q, hne⟩
  item := by
    intro X hP hw hK hc i pins s σ H E I hf st hg
    subst hP hw hK
    obtain ⟨⟨old, he⟩, hit, hne, hai, hae⟩ := st
    obtain ⟨xs, x, hq, hx⟩ := hg
    obtain ⟨its, rv, p, hz⟩ := I.tuple hq
    obtain ⟨u, hu, ru⟩ := rv.get hx
    have hel : e < s.heap.objs.size := Heap.lt_size he
    have hil : it < s.heap.objs.size := by obtain ⟨_, q, _⟩ := hit; exact Heap.lt_size q
    have hlt : i < its.toArray.size := by
      rw [List.size_toArray]
      exact (List.getElem?_eq_some_iff.mp hu).1
    have D := drawsT (prog := X.prog) (w := X.w) (A := X.A.in1) (I.ok.hd hc) it a hai its.toArray
    refine wpAny_pyNext_enum_itemD D he ⟨hit, p⟩ hlt hne (by simp; exact ⟨hne, fun z => hae z.symm⟩) fun x' h' tk hP ho hit' hT hsz hk => ?_
    have hx' : x' = u := by
      have q : its.toArray[i]? = some u := by simpa using hu
      rw [q] at hP
      exact (Option.some.inj hP).symm
    subst hx'
    refine ⟨_, rfl, wpAny_letOwnedTupleGo_enum (s := { s with heap := h', toks := tk + 1 }) ho fun h'' he' sb => ?_⟩
    have hT2 : h''.get? s.heap.objs.size = some { cls := .type "tuple", data := .seq #[.int i tk, x'] } := (sb.2 _ (Nat.ne_of_gt hel)).trans hT
    have new : ObjOk X.prog X.w (upd H s.heap.objs.size (tf { cls := .type "tuple", data := .seq #[.int i tk, x'] } [.int (i : Nat), x])) h'' s.heap.objs.size (tf { cls := .type "tuple", data := .seq #[.int i tk, x'] } [.int (i : Nat), x]) :=
      tf_ok (its := [.int i tk, x']) (by show 2 ≤ sizeLine; decide) (.cons ⟨_, rfl⟩ (.cons ru .nil)) hT2
    have I1 : Inv X pins σ (upd H s.heap.objs.size (tf { cls := .type "tuple", data := .seq #[.int i tk, x'] } [.int (i : Nat), x])) { s with heap := h'', toks := tk + 1 } :=
      I.turnedNew (ch := [e, it]) (fun b ob hb q => (sb.2 b (fun z => hb (by simp [z]))).trans (hk b ob (fun z => hb (by simp [z])) (fun z => hb (by simp [z])) q)) hf (Nat.le_refl _) new
    refine ⟨.ref s.heap.objs.size, _, I1, rfl, ⟨_, _, x, rfl, I.hok.fresh (Nat.le_refl _), rfl, rfl, fun ys hy => by rw [I.tuple_inj hy hq]; exact hx⟩, ⟨⟨x', ?_⟩, hit'.1.at fun o q => (sb.2 it (Ne.symm hne)).trans q, hne, hai, hae⟩, fun b hb => ?_⟩
    · have e1 : ((i + 1 : Nat) : Int) = (i : Int) + 1 := by omega
      rw [e1]; exact he'
    · have hb' : b < s.heap.objs.size := by
        have e' : b = e ∨ b = it := by simpa using hb
        rcases e' with z | z
        · rw [z]; exact hel
        · rw [z]; exact hil
      rw [upd_ne (Nat.ne_of_lt hb')]
      exact (hf b hb).1
  done := by
    intro X hP hw hK hc i pins s σ H E I hf st hg
    subst hP hw hK
    obtain ⟨⟨old, he⟩, hit, hne, hai, hae⟩ := st
    obtain ⟨xs, hq, hx⟩ := hg
    obtain ⟨its, rv, p, hz⟩ := I.tuple hq
    obtain ⟨f0, f1, f2, f3, f4, f5⟩ := hf it (by simp)
    have hl := rv.length
    have hT : s.TypeIs (.ref e) "enumerate" := ⟨_, he, rfl⟩
    unfold pyNext
    refine wpAny_bind (wpAny_attempt (wpAny_callSpecial?_slot (name := Str.ofString "__next__") hT F.slot_enumerate_next
      (wpAny_call_entry F.slot_enumerate_next hT F.entry_enumerate_next ?_ (F.args_enumerate_next_1 _))))
    show wpAny _ _ (field (.ref e) 2 >>= _) _ _ _
    refine wpAny_bind (wpAny_field he rfl (x := .ref it) rfl ?_)
    refine wpAny_bind (RZ.nextOf_tuple_end (I.ok.hd hc) hit p (by simp; omega) fun h' x he' hx' => ?_)
    obtain ⟨o, ho, hc'⟩ := hx'
    refine wpAny_bind (wpAny_isInstance (T := "StopIteration") (b := true) ⟨o, ho, hc'⟩ isSubtype_stop ?_)
    exact wpAny_pure ⟨rfl, I.turned (t' := s.toks) (fun b o hb q => he' b o hb q) f0 f1 f3 f4 f5⟩
  self := fun A i s Q E st h => let ⟨⟨_, he⟩, _⟩ := st; wpAny_pyIter_enum he h
end DT

end
section
/-! xs[::-1] of a tuple. -/
namespace DT
open PySem PySem.Spec PyProof.Rows L2
open HT
section
variable {prog : Program} {w : World} {A : Around} {E : Value → Shared → Prop} {s : Shared}
theorem places_rev (n : Nat) : Builtin.Slice.slicePlaces ((n : Int) - 1) (-1) (-1) = n := by
  unfold Builtin.Slice.slicePlaces
  have h1 : ¬ ((-1 : Int) > 0) := by omega
  simp only [h1, if_false]
  first
    | omega
    | (split <;> omega)
    | (simp; omega)
    | (split <;> simp <;> omega)
theorem adjust_rev (n : Nat) : Builtin.Slice.sliceAdjust none none (-1) (n : Int) = ((n : Int) - 1, -1) := by
  unfold Builtin.Slice.sliceAdjust
  first
    | rfl
    | simp
theorem sliceApplied_rev {sl : Addr} {vs : Value} {n : Nat} {Q : Int × Int × Nat → Shared → Prop} (hs : s.heap.IsSliceOf sl .none .none vs) (ps : IsPart vs (some (-1)))
    (h : Q ((n : Int) - 1, -1, n) s) : wpAny (model prog w) A (Builtin.Slice.sliceApplied (.ref sl) (pure (n : Int))) Q E s := by
  obtain ⟨os, hos, hcs, hds⟩ := id hs
  unfold Builtin.Slice.sliceApplied Builtin.Slice.sliceFields
  refine wpAny_bind (wpAny_bind (wpAny_field hos hds (x := .none) rfl (wpAny_bind (wpAny_field hos hds (x := .none) rfl (wpAny_bind (wpAny_field hos hds (x := vs) rfl (wpAny_pure ?_)))))))
  refine wpAny_bind (slicePart_ ps ?_)
  show wpAny _ _ (if ((-1 : Int) == 0) = true then _ else _) _ _ s
  rw [if_neg (by decide)]
  refine wpAny_bind (slicePart_none (wpAny_bind (slicePart_none (wpAny_bind (wpAny_pure ?_)))))
  show wpAny _ _ (match Builtin.Slice.sliceAdjust none none (-1) (n : Int) with | (lo, hi) => pure (lo, (-1 : Int), Builtin.Slice.slicePlaces lo hi (-1))) _ _ s
  rw [adjust_rev n]
  show wpAny _ _ (pure ((n : Int) - 1, (-1 : Int), Builtin.Slice.slicePlaces ((n : Int) - 1) (-1) (-1))) _ _ s
  rw [places_rev]
  exact wpAny_pure h
theorem pick_rev (xs : Array Value) : ((List.range xs.size).filterMap fun (m : Nat) => xs[(((xs.size : Nat) : Int) - 1 + (m : Int) * (-1)).toNat]?).toArray = xs.toList.reverse.toArray := by
  have e : (List.range xs.size).filterMap (fun (m : Nat) => xs[(((xs.size : Nat) : Int) - 1 + (m : Int) * (-1)).toNat]?) = ((List.range xs.size).map fun k => xs.size - 1 - k).filterMap (xs[·]?) := by
    rw [List.filterMap_map]
    have key : ∀ (l : List Nat) (f g : Nat → Option Value), (∀ m ∈ l, f m = g m) → l.filterMap f = l.filterMap g := by
      intro l f g
      induction l with
      | nil => intro _; rfl
      | cons m l ih =>
        intro q
        rw [List.filterMap_cons, List.filterMap_cons, q m List.mem_cons_self, ih fun k hk => q k (List.mem_cons_of_mem _ hk)]
    refine key _ _ _ fun m hm => ?_
    have hm := List.mem_range.mp hm
    show xs[(((xs.size : Nat) : Int) - 1 + (m : Int) * (-1)).toNat]? = xs[xs.size - 1 - m]?
    have e : (((xs.size : Nat) : Int) - 1 + (m : Int) * (-1)).toNat = xs.size - 1 - m := by omega
    rw [e]
  rw [e, PySem.W.krv_range, List.filterMap_reverse, PySem.W.krv_all]
theorem getItem_tuple_rev {t sl : Addr} {items : Array Value} {vs : Value} {Q : Value → Shared → Prop} (ht : IsTup s.heap t items) (hs : s.heap.IsSliceOf sl .none .none vs) (ps : IsPart vs (some (-1)))
    (h : Q (.ref s.heap.objs.size) { s with heap := s.heap.push { cls := .type "tuple", data := .seq items.toList.reverse.toArray } })
    (hsz : items.size ≤ sizeLine) : wpAny (model prog w) A (getItem (.ref t) (.ref sl)) Q E s := by
  have htake : sizeOk (.seq items.toList.reverse.toArray) := by
    show items.toList.reverse.toArray.size ≤ sizeLine
    rw [List.size_toArray, List.length_reverse, Array.length_toList]
    omega
  obtain ⟨os, hos, hcs, hds⟩ := id hs
  have hTs : s.TypeIs (.ref sl) "slice" := ⟨os, hos, hcs⟩
  unfold getItem
  try with_reducible refine wpAny_holding ?_
  first | refine wpAny_bind (wpAny_pure ?_) | skip
  refine wpAny_bind (wpAny_sequenceKey ht.typeIs (by decide) ?_)
  refine wpAny_bind (wpAny_callSpecial?_slot (name := Str.ofString "__getitem__") ht.typeIs PyProof.Rows.slot_tuple_getitem
    (wpAny_call_entry PyProof.Rows.slot_tuple_getitem ht.typeIs entry_tuple_getitem ?_ (args_tuple_getitem _ _)))
  show wpAny _ _ (Builtin.Tuple.tupleItemsOf (.ref t) >>= _) _ _ s
  refine wpAny_bind (tupleItemsOf_ ht ?_)
  refine wpAny_bind (wpAny_typeOf hTs ?_)
  rw [if_pos (by decide)]
  refine wpAny_bind (sliceApplied_rev hs ps ?_)
  have hno : ¬ ((((items.size : Nat) : Int) - 1 == 0 && (-1 : Int) == 1 && items.size == items.size) = true) := by
    intro q
    rw [Bool.and_eq_true, Bool.and_eq_true] at q
    exact absurd q.1.2 (by decide)
  show wpAny _ _ (if (((items.size : Nat) : Int) - 1 == 0 && (-1 : Int) == 1 && items.size == items.size) = true then _ else _) _ _ s
  rw [if_neg hno, pick_rev]
  first
    | exact wpAny_bind (m := Builtin.Tuple.tupleExact _) (wpAny_newObj_type (wpAny_pure ⟨_, rfl, wpAny_pure h⟩) htake)
    | exact wpAny_bind (m := Builtin.Tuple.tupleExact _) (wpAny_newObj_type (wpAny_bind (wpAny_pure (wpAny_pure ⟨_, rfl, wpAny_pure h⟩))) htake)
    | exact wpAny_bind (wpAny_bind (m := Builtin.Tuple.tupleExact _) (wpAny_newObj_type (wpAny_pure (wpAny_pure ⟨_, rfl, wpAny_pure h⟩)) htake))
    | exact wpAny_bind (wpAny_bind (m := Builtin.Tuple.tupleExact _) (wpAny_newObj_type (wpAny_pure ⟨_, rfl, wpAny_pure h⟩) htake))
end
section
variable {X : Cx}
/-- of a list, of a tuple: a new one -/
def tRevA (K : PySem.W.Frag) (te : TE) : TE := fun σ H Q => te σ H fun x H1 => ∃ a xs, x = .ref a ∧ ((SqL K H1 a xs ∧ ∀ p, H1 p = none → Q (.ref p) (upd H1 p (.lst xs.reverse))) ∨ (SqT K H1 a xs ∧ ∀ p, H1 p = none → Q (.ref p) (upd H1 p (.tup xs.reverse))))
theorem pe_revA {e : Expr} {te : TE} {k : Nat} {p1 p2 p3 pos : Pos} (he : PE X e te) : PE X (.Subscript e (.Slice none none (some (.UnaryOp .USub (.Constant (.int 1) k p1) p2)) p3) pos) (tRevA X.K te) := by
  refine ⟨fun pins s σ H Q I h => ?_⟩
  refine Subscript_ (thn (he.run pins s σ H _ I h) fun v s1 ⟨x, H1, I1, r1, q1⟩ => ?_)
  obtain ⟨a, xs, ex, hx⟩ := q1
  subst ex
  cases r1
  have hst : PO X (some (.UnaryOp .USub (.Constant (.int 1) k p1) p2)) (tPart (tUn (rU fun i => .int (-i)) (tC (.int 1)))) := po_some (pe_un un_neg pe_int)
  refine wpAny_Slice (thn (po_none.run pins s1 σ H1 (fun o H2 => o = none ∧ H2 = H1) I1 ⟨rfl, rfl⟩) fun vl s2 ⟨l, H2, I2, pl, el, e2⟩ => ?_)
  subst el e2
  refine thn (po_none.run pins s2 σ H2 (fun o H3 => o = none ∧ H3 = H2) I2 ⟨rfl, rfl⟩) fun vu s3 ⟨u, H3, I3, pu, eu, e3⟩ => ?_
  subst eu e3
  refine thn (hst.run pins s3 σ H3 (fun o H4 => o = some (-1) ∧ H4 = H3) I3 ⟨1, rfl, -1, rfl, rfl, rfl⟩) fun vs s4 ⟨o, H4, I4, ps, eo, e4⟩ => ?_
  subst eo e4
  have I5 : Inv X pins σ H4 { s4 with heap := s4.heap.push { cls := .type "slice", data := .fields #[vl, vu, vs] } } := I4.kept (t' := s4.toks) fun b ob q => Heap.get?_push_of_some _ q
  rcases hx with ⟨hx, q⟩ | ⟨hx, q⟩
  · obtain ⟨its, r, ht, hz⟩ := I5.list hx
    have hlen := r.length
    show wpAny (model X.prog X.w) X.A (subscriptTail e (.Slice none none (some (.UnaryOp .USub (.Constant (.int 1) k p1) p2)) p3) (.ref a) (.ref s4.heap.objs.size)) (EP X pins σ Q) X.xe { s4 with heap := s4.heap.push { cls := .type "slice", data := .fields #[vl, vu, vs] } }
    refine tail_any (ops := [.ref a, .ref s4.heap.objs.size]) ht.isList.typeIs (PySem.slot_list_getitem.lookup) ?_ (by with_unfolding_all rfl)
    refine wpAny_getItem_list_slice ht.isList (Heap.IsSliceOf.new _ vl vu vs) pl pu ps (by decide) ?_ (by rw [List.size_toArray]; omega)
    rw [PySem.W.krv_pick]
    refine ⟨.ref _, _, I5.laid (t' := s4.toks) (o := .lst xs.reverse) (fun b ob q => Heap.get?_push_of_some _ q) (Nat.le_refl _) ?_, rfl, q _ (I5.hok.fresh (Nat.le_refl _))⟩
    exact ⟨by rw [List.length_reverse]; exact hz, _, 0, r.reverse, Heap.get?_push_size _ rfl⟩
  · obtain ⟨its, r, ht, hz⟩ := I5.tuple hx
    have hlen := r.length
    cases pl
    cases pu
    show wpAny (model X.prog X.w) X.A (subscriptTail e (.Slice none none (some (.UnaryOp .USub (.Constant (.int 1) k p1) p2)) p3) (.ref a) (.ref s4.heap.objs.size)) (EP X pins σ Q) X.xe { s4 with heap := s4.heap.push { cls := .type "slice", data := .fields #[.none, .none, vs] } }
    refine tail_any (ops := [.ref a, .ref s4.heap.objs.size]) ht.typeIs (PyProof.Rows.slot_tuple_getitem.lookup) ?_ (by with_unfolding_all rfl)
    refine getItem_tuple_rev ht (Heap.IsSliceOf.new _ .none .none vs) ps ?_ (by rw [List.size_toArray]; omega)
    refine ⟨.ref _, _, I5.laid (t' := s4.toks) (o := .tup xs.reverse) (fun b ob q => Heap.get?_push_of_some _ q) (Nat.le_refl _) ?_, rfl, q _ (I5.hok.fresh (Nat.le_refl _))⟩
    exact ⟨by rw [List.length_reverse]; exact hz, _, r.reverse, IsTup.new _ _⟩
end
end DT

end
section
/-! New tuples, told with their object: it has no dict of its own. -/
namespace DT
open PySem PySem.Spec PyProof.Rows L2

section
variable {X : Cx} {pins : List (Addr × Obj)} {σ : L2.St} {H : Hp} {s : Shared}
/-- the end of each rule that makes one -/
theorem fin_newT {its : List Value} {xs : List V} {Q : VK} {t' : Nat} (I : Inv X pins σ H s) (r : Vals xs its) (hz : xs.length ≤ sizeLine) (q : newT xs H Q) :
    EP X pins σ Q (.ref s.heap.objs.size) { s with heap := s.heap.push { cls := .type "tuple", data := .seq its.toArray }, toks := t' } :=
  ⟨.ref s.heap.objs.size, _, I.laid (t' := t') (fun b u e => Heap.get?_push_of_some _ e) (Nat.le_refl _) (tf_ok hz r (Heap.get?_push_size _ rfl)), rfl, q _ _ (I.hok.fresh (Nat.le_refl _)) rfl⟩
variable {e : Expr} {es : List Expr} {te : TE} {t : TA} {pos : Pos}
def tTupF (t : TA) : TE := fun σ H Q => t σ H fun xs H1 => xs.length ≤ sizeLine ∧ newT xs H1 Q
theorem pe_tupF {x1} (h : PA X es t) : PE X (.Tuple es x1 pos) (tTupF t) := by
  refine ⟨fun pins s σ H Q I hq => ?_⟩
  exact wpAny_Tuple_spliced (thn (h.run pos pins s σ H _ I hq) fun us s1 ⟨xs, H1, I1, r, z, q⟩ => ⟨by rw [← r.length]; exact z, fin_newT (t' := s1.toks) I1 r z q⟩)
theorem call_tuple_F : CallR X (.type "tuple") (fun xs H Q => ∃ p ys, xs = [.ref p] ∧ ((SqL X.K H p ys ∧ newT ys H Q) ∨ (SqT X.K H p ys ∧ Q (.ref p) H))) := by
  intro pins s σ H xs us Q I r h
  obtain ⟨p, ys, rfl, h⟩ := h
  obtain ⟨u, rfl, rx⟩ := vals1 r
  cases rx
  rcases h with ⟨hq, q⟩ | ⟨hq, q⟩
  · obtain ⟨its, r', pl, hz⟩ := I.list hq
    have hlen := r'.length
    refine call_tuple_list pl.isList (fun h' kp => ?_) (by simp only [List.size_toArray] <;> omega)
    have I1 : Inv X pins σ H { s with heap := h' } := I.kept (t' := s.toks) kp
    exact fin_newT (t' := s.toks) I1 r' hz q
  · obtain ⟨its, r', pl, hz⟩ := I.tuple hq
    exact call_tuple_same pl ⟨.ref p, H, I, rfl, q⟩
def tTupRgF (te : L2.St → Hp → (Int → Int → Hp → Prop) → Prop) : TE := fun σ H Q => te σ H fun a b H1 => RgOk a b ∧ newT (rgV a b) H1 Q
theorem pe_tupRgF {te : L2.St → Hp → (Int → Int → Hp → Prop) → Prop} {p pos : Pos} (hc : X.calm = true) (hg : Gl X "tuple") (hm : X.mg "tuple" = none) (he : PRg X e te) (na : starEach [e] X.env = (false, eval e X.env) :: starEach [] X.env) : PE X (.Call (.Name "tuple" p) [e] [] pos) (tTupRgF te) := by
  refine ⟨fun pins s σ H Q I h => ?_⟩
  refine Call_ (ld_blt I hg hm PyProof.Rows.boot_tuple (PyProof.Rows.callWith_type1 (args_cons (thn (he pins s σ H _ I h) fun x s1 ⟨r, a, b, t, u, v, H1, ex, hr, I1, ok, q⟩ => args_nil ?_) na) na))
  subst ex
  obtain ⟨b1, b2, b3, b4, b5⟩ := ok
  refine call_tuple_range (n := (b - a).toNat) (I1.ok.hd hc) hr (small_one b1 b2 b3 b4) (rangeSize_nat a b) b5 fun h' tk acc hk hi => ?_
  have I2 : Inv X pins σ H1 { s1 with heap := h', toks := tk } := I1.kept hk
  have := fin_newT (s := { s1 with heap := h', toks := tk }) (t' := tk) I2 (vals_rg hi) (by rw [rgV_length, sizeLine_eq]; omega) q
  simpa using this
/-- t + u -/
def rCatF (K : PySem.W.Frag) : R2 := fun x y H Q => ∃ a b xs ys, x = .ref a ∧ y = .ref b ∧ SqT K H a xs ∧ SqT K H b ys ∧ xs.length + ys.length ≤ sizeLine ∧
  (xs = [] → Q (.ref b) H) ∧ (xs ≠ [] → ys = [] → Q (.ref a) H) ∧ (xs ≠ [] → ys ≠ [] → newT (xs ++ ys) H Q)
theorem op_catF : OpR X (binaryOp .Add) (rCatF X.K) := by
  intro pins s σ H x y v u Q I rx ry h
  obtain ⟨a, b, xs, ys, rfl, rfl, ha, hb, hz, q0, q1, q2⟩ := h
  by_cases hx : xs = []
  · subst hx
    cases rx
    cases ry
    obtain ⟨its, r1, p1, _⟩ := I.tuple ha
    obtain ⟨its2, r2, p2, _⟩ := I.tuple hb
    cases r1
    exact cat_tup0 p1 p2 ⟨.ref b, H, I, rfl, q0 rfl⟩
  · cases rx
    cases ry
    obtain ⟨its, r1, p1, _⟩ := I.tuple ha
    obtain ⟨its2, r2, p2, _⟩ := I.tuple hb
    refine HT.cat_tup p1 p2 (fun z => hx (r1.nil_iff.mp z)) (fun z => ⟨.ref a, H, I, rfl, q1 hx (r2.nil_iff.mp z)⟩) (fun z => ?_) (by rw [← r1.length, ← r2.length]; exact hz)
    have := fin_newT (t' := s.toks) (its := its ++ its2) I (r1.append r2) (by rw [List.length_append]; exact hz) (q2 hx fun w => z (r2.nil_iff.mpr w))
    simpa using this
/-- t[lo:hi] -/
def rSlF (K : PySem.W.Frag) : V → Option Int → Option Int → Hp → VK → Prop := fun x lo hi H Q => ∃ a xs, x = .ref a ∧ SqT K H a xs ∧
  (HT.sIx xs.length 0 lo = 0 ∧ HT.sIx xs.length xs.length hi = xs.length → Q (.ref a) H) ∧ (¬ (HT.sIx xs.length 0 lo = 0 ∧ HT.sIx xs.length xs.length hi = xs.length) → newT (cutV xs lo hi) H Q)
theorem sl_tupF : SlR X (rSlF X.K) := by
  intro pins s σ H x v vl vu lo hi sl Q I rx hs pl pu h
  obtain ⟨a, xs, rfl, hx, q1, q2⟩ := h
  by_cases hw : HT.sIx xs.length 0 lo = 0 ∧ HT.sIx xs.length xs.length hi = xs.length
  · exact sl_tupA pins s σ H _ v vl vu lo hi sl Q I rx hs pl pu ⟨a, xs, rfl, hx, q1, fun z => absurd hw z⟩
  · cases rx
    obtain ⟨its, r, ht, hz⟩ := I.tuple hx
    have hlen : its.toArray.size = xs.length := by rw [List.size_toArray]; exact r.length.symm
    refine ⟨"tuple", _, PyProof.Rows.slot_tuple_getitem.lookup, ht.typeIs, ?_⟩
    refine HT.getItem_tuple_cut ht hs pl pu (by rw [hlen]; exact hw) ?_ (by rw [hlen]; exact hz)
    rw [hlen]
    exact fin_newT (t' := s.toks) I ((r.drop (HT.sIx xs.length 0 lo)).take (HT.sIx xs.length xs.length hi - HT.sIx xs.length 0 lo)) (Nat.le_trans (cutV_length xs lo hi) hz) (q2 hw)
/-- xs[::-1] of a list, of a tuple -/
def tRevF (K : PySem.W.Frag) (te : TE) : TE := fun σ H Q => te σ H fun x H1 => ∃ a xs, x = .ref a ∧ ((SqL K H1 a xs ∧ ∀ p, H1 p = none → Q (.ref p) (upd H1 p (.lst xs.reverse))) ∨ (SqT K H1 a xs ∧ newT xs.reverse H1 Q))
theorem pe_revF {k : Nat} {p1 p2 p3 pos : Pos} (he : PE X e te) : PE X (.Subscript e (.Slice none none (some (.UnaryOp .USub (.Constant (.int 1) k p1) p2)) p3) pos) (tRevF X.K te) := by
  refine ⟨fun pins s σ H Q I h => ?_⟩
  refine Subscript_ (thn (he.run pins s σ H _ I h) fun v s1 ⟨x, H1, I1, r1, q1⟩ => ?_)
  obtain ⟨a, xs, ex, hx⟩ := q1
  subst ex
  cases r1
  have hst : PO X (some (.UnaryOp .USub (.Constant (.int 1) k p1) p2)) (tPart (tUn (rU fun i => .int (-i)) (tC (.int 1)))) := po_some (pe_un un_neg pe_int)
  refine wpAny_Slice (thn (po_none.run pins s1 σ H1 (fun o H2 => o = none ∧ H2 = H1) I1 ⟨rfl, rfl⟩) fun vl s2 ⟨l, H2, I2, pl, el, e2⟩ => ?_)
  subst el e2
  refine thn (po_none.run pins s2 σ H2 (fun o H3 => o = none ∧ H3 = H2) I2 ⟨rfl, rfl⟩) fun vu s3 ⟨u, H3, I3, pu, eu, e3⟩ => ?_
  subst eu e3
  refine thn (hst.run pins s3 σ H3 (fun o H4 => o = some (-1) ∧ H4 = H3) I3 ⟨1, rfl, -1, rfl, rfl, rfl⟩) fun vs s4 ⟨o, H4, I4, ps, eo, e4⟩ => ?_
  subst eo e4
  have I5 : Inv X pins σ H4 { s4 with heap := s4.heap.push { cls := .type "slice", data := .fields #[vl, vu, vs] } } := I4.kept (t' := s4.toks) fun b ob q => Heap.get?_push_of_some _ q
  rcases hx with ⟨hx, q⟩ | ⟨hx, q⟩
  · obtain ⟨its, r, ht, hz⟩ := I5.list hx
    have hlen := r.length
    show wpAny (model X.prog X.w) X.A (subscriptTail e (.Slice none none (some (.UnaryOp .USub (.Constant (.int 1) k p1) p2)) p3) (.ref a) (.ref s4.heap.objs.size)) (EP X pins σ Q) X.xe { s4 with heap := s4.heap.push { cls := .type "slice", data := .fields #[vl, vu, vs] } }
    refine tail_any (ops := [.ref a, .ref s4.heap.objs.size]) ht.isList.typeIs (PySem.slot_list_getitem.lookup) ?_ (by with_unfolding_all rfl)
    refine wpAny_getItem_list_slice ht.isList (Heap.IsSliceOf.new _ vl vu vs) pl pu ps (by decide) ?_ (by rw [List.size_toArray]; omega)
    rw [PySem.W.krv_pick]
    refine ⟨.ref _, _, I5.laid (t' := s4.toks) (o := .lst xs.reverse) (fun b ob q => Heap.get?_push_of_some _ q) (Nat.le_refl _) ?_, rfl, q _ (I5.hok.fresh (Nat.le_refl _))⟩
    exact ⟨by rw [List.length_reverse]; exact hz, _, 0, r.reverse, Heap.get?_push_size _ rfl⟩
  · obtain ⟨its, r, ht, hz⟩ := I5.tuple hx
    have hlen := r.length
    cases pl
    cases pu
    show wpAny (model X.prog X.w) X.A (subscriptTail e (.Slice none none (some (.UnaryOp .USub (.Constant (.int 1) k p1) p2)) p3) (.ref a) (.ref s4.heap.objs.size)) (EP X pins σ Q) X.xe { s4 with heap := s4.heap.push { cls := .type "slice", data := .fields #[.none, .none, vs] } }
    refine tail_any (ops := [.ref a, .ref s4.heap.objs.size]) ht.typeIs (PyProof.Rows.slot_tuple_getitem.lookup) ?_ (by with_unfolding_all rfl)
    refine getItem_tuple_rev ht (Heap.IsSliceOf.new _ .none .none vs) ps ?_ (by rw [List.size_toArray]; omega)
    exact fin_newT (t' := s4.toks) I5 r.reverse (by rw [List.length_reverse]; exact hz) q
end

/-! ### what yields pairs -/

/-- L: the items in new pairs -/
def ItzL (K : PySem.W.Frag) (a b : Addr) : It :=
  ⟨fun i H => ∃ (xs ys : List V) (x y : V), SqL K H a xs ∧ SqL K H b ys ∧ xs[i]? = some x ∧ ys[i]? = some y,
    fun i H v H' => ∃ T o x y, v = .ref T ∧ H T = none ∧ o.dict = none ∧ H' = upd H T (tf o [x, y]) ∧ (∀ xs, SqL K H a xs → xs[i]? = some x) ∧ ∀ ys, SqL K H b ys → ys[i]? = some y,
    fun i H => ∃ xs ys : List V, SqL K H a xs ∧ SqL K H b ys ∧ (xs.length ≤ i ∨ ys.length ≤ i)⟩
theorem turn_zL {P : Program} {w : World} {K : PySem.W.Frag} {elts : List Expr} {kk : Nat} {tpos : Pos} {a b z TI TO i1 i2 : Addr} (D : ZipApart z TI TO i1 i2 a b) :
    Turn P w K (.Tuple elts kk tpos) (ItzL K a b) [z, TI, TO, i1, i2] z (fun i h => IsZip h z TI TO .none ∧ IsPair h TI (.ref i1) (.ref i2) ∧ (∃ x y, IsPair h TO x y) ∧ h.IsListIter i1 a i ∧ h.IsListIter i2 b i) where
  mem := by simp
  obj := fun i h st c hc => by
    obtain ⟨hz, hTI, ⟨x, y, hTO⟩, ⟨o1, e1, _, d1⟩, ⟨o2, e2, _, d2⟩⟩ := st
    have e' : c = z ∨ c = TI ∨ c = TO ∨ c = i1 ∨ c = i2 := by simpa using hc
    rcases e' with q | q | q | q | q
    · rw [q]; exact ⟨_, hz, fun v q => nomatch q⟩
    · rw [q]; exact ⟨_, hTI, fun v q => nomatch q⟩
    · rw [q]; exact ⟨_, hTO, fun v q => nomatch q⟩
    · rw [q]; exact ⟨o1, e1, fun v q => by rw [d1] at q; cases q⟩
    · rw [q]; exact ⟨o2, e2, fun v q => by rw [d2] at q; cases q⟩
  keep := fun i h h' st k => by
    obtain ⟨hz, hTI, ⟨x, y, hTO⟩, h1, h2⟩ := st
    exact ⟨k z (by simp) _ hz, k TI (by simp) _ hTI, ⟨x, y, k TO (by simp) _ hTO⟩, h1.at fun o q => k i1 (by simp) o q, h2.at fun o q => k i2 (by simp) o q⟩
  item := by
    intro X hP hw hK hc i pins s σ H E I hf st hg
    subst hP hw hK
    obtain ⟨hz, hTI, ⟨x0, y0, hTO⟩, h1, h2⟩ := st
    obtain ⟨xs, ys, x, y, hqx, hqy, hx, hy⟩ := hg
    obtain ⟨its, rv, p, _⟩ := I.list hqx
    obtain ⟨its2, rv2, p2, _⟩ := I.list hqy
    obtain ⟨u, hu, ru⟩ := rv.get hx
    obtain ⟨u2, hu2, ru2⟩ := rv2.get hy
    have hzl : z < s.heap.objs.size := Heap.lt_size hz
    refine wpAny_pyNext_zip_item D hz hTI hTO h1 h2 p.isList p2.isList (x := u) (y := u2) (by simpa using hu) (by simpa using hu2) fun h' z' TO' h1' h2' hT hsz hk => ?_
    refine ⟨_, rfl, wpAny_letOwnedTupleGo_zip (s := { s with heap := h' }) z' fun h'' z'' sb => ?_⟩
    have hT2 : h''.get? s.heap.objs.size = some { cls := .type "tuple", data := .seq #[u, u2] } := (sb.2 _ (Nat.ne_of_gt hzl)).trans hT
    have new : ObjOk X.prog X.w (upd H s.heap.objs.size (tf { cls := .type "tuple", data := .seq #[u, u2] } [x, y])) h'' s.heap.objs.size (tf { cls := .type "tuple", data := .seq #[u, u2] } [x, y]) :=
      tf_ok (its := [u, u2]) (by show 2 ≤ sizeLine; decide) (.cons ru (.cons ru2 .nil)) hT2
    have I1 : Inv X pins σ (upd H s.heap.objs.size (tf { cls := .type "tuple", data := .seq #[u, u2] } [x, y])) { s with heap := h'' } :=
      I.turnedNew (t' := s.toks) (ch := [z, TI, TO, i1, i2]) (fun c o hb q => (sb.2 c (fun q' => hb (by simp [q']))).trans (hk c o (fun q' => hb (by simp [q'])) (fun q' => hb (by simp [q'])) (fun q' => hb (by simp [q'])) (fun q' => hb (by simp [q'])) q)) hf (Nat.le_refl _) new
    refine ⟨.ref s.heap.objs.size, _, I1, rfl, ⟨_, _, x, y, rfl, I.hok.fresh (Nat.le_refl _), rfl, rfl, fun l hl => by rw [I.list_inj hl hqx]; exact hx, fun l hl => by rw [I.list_inj hl hqy]; exact hy⟩, ⟨z'', ?_, ⟨u, u2, ?_⟩, ?_, ?_⟩, fun c hcm => ?_⟩
    · exact (sb.2 _ D.TIz).trans (hk _ _ D.TIz D.TITO D.TIi1 D.TIi2 hTI)
    · exact (sb.2 _ D.TOz).trans TO'
    · exact h1'.at fun o q => (sb.2 _ D.i1z).trans q
    · exact h2'.at fun o q => (sb.2 _ D.i2z).trans q
    · have hlt : c < s.heap.objs.size := by
        have e' : c = z ∨ c = TI ∨ c = TO ∨ c = i1 ∨ c = i2 := by simpa using hcm
        rcases e' with q | q | q | q | q
        · rw [q]; exact hzl
        · rw [q]; exact Heap.lt_size hTI
        · rw [q]; exact Heap.lt_size hTO
        · rw [q]; obtain ⟨_, e1, _⟩ := h1; exact Heap.lt_size e1
        · rw [q]; obtain ⟨_, e2, _⟩ := h2; exact Heap.lt_size e2
      rw [upd_ne (Nat.ne_of_lt hlt)]
      exact (hf c hcm).1
  done := by
    intro X hP hw hK hc i pins s σ H E I hf st hg
    subst hP hw hK
    obtain ⟨hz, hTI, ⟨x0, y0, hTO⟩, h1, h2⟩ := st
    obtain ⟨xs, ys, hqx, hqy, hend⟩ := hg
    obtain ⟨its, rv, p, _⟩ := I.list hqx
    obtain ⟨its2, rv2, p2, _⟩ := I.list hqy
    have l1 := rv.length
    have l2 := rv2.length
    have he : its.toArray[i]? = none ∨ its2.toArray[i]? = none := by
      rcases hend with q | q
      · exact .inl (by simp; omega)
      · exact .inr (by simp; omega)
    exact wpAny_pyNext_zip_end (I.ok.hd hc) D hz hTI hTO h1 h2 p.isList p2.isList he fun h' hk => ⟨rfl, I.turnedL (t' := s.toks) (ch := [z, TI, TO, i1, i2]) (fun c o hb q =>
      hk c o (fun q' => hb (by simp [q'])) (fun q' => hb (by simp [q'])) (fun q' => hb (by simp [q'])) (fun q' => hb (by simp [q'])) q) hf⟩
  self := fun A i s Q E st h => wpAny_pyIter_zip st.1 h

/-- U: the items in new pairs -/
def ItzU (K : PySem.W.Frag) (a b : Addr) : It :=
  ⟨fun i H => ∃ (xs ys : List V) (x y : V), SqT K H a xs ∧ SqT K H b ys ∧ xs[i]? = some x ∧ ys[i]? = some y,
    fun i H v H' => ∃ T o x y, v = .ref T ∧ H T = none ∧ o.dict = none ∧ H' = upd H T (tf o [x, y]) ∧ (∀ xs, SqT K H a xs → xs[i]? = some x) ∧ ∀ ys, SqT K H b ys → ys[i]? = some y,
    fun i H => ∃ xs ys : List V, SqT K H a xs ∧ SqT K H b ys ∧ (xs.length ≤ i ∨ ys.length ≤ i)⟩
theorem turn_zU {P : Program} {w : World} {K : PySem.W.Frag} {elts : List Expr} {kk : Nat} {tpos : Pos} {a b z TI TO i1 i2 : Addr} (D : ZipApart z TI TO i1 i2 a b) :
    Turn P w K (.Tuple elts kk tpos) (ItzU K a b) [z, TI, TO, i1, i2] z (fun i h => IsZip h z TI TO .none ∧ IsPair h TI (.ref i1) (.ref i2) ∧ (∃ x y, IsPair h TO x y) ∧ h.IsTupleIter i1 a i ∧ h.IsTupleIter i2 b i) where
  mem := by simp
  obj := fun i h st c hc => by
    obtain ⟨hz, hTI, ⟨x, y, hTO⟩, ⟨o1, e1, _, d1⟩, ⟨o2, e2, _, d2⟩⟩ := st
    have e' : c = z ∨ c = TI ∨ c = TO ∨ c = i1 ∨ c = i2 := by simpa using hc
    rcases e' with q | q | q | q | q
    · rw [q]; exact ⟨_, hz, fun v q => nomatch q⟩
    · rw [q]; exact ⟨_, hTI, fun v q => nomatch q⟩
    · rw [q]; exact ⟨_, hTO, fun v q => nomatch q⟩
    · rw [q]; exact ⟨o1, e1, fun v q => by rw [d1] at q; cases q⟩
    · rw [q]; exact ⟨o2, e2, fun v q => by rw [d2] at q; cases q⟩
  keep := fun i h h' st k => by
    obtain ⟨hz, hTI, ⟨x, y, hTO⟩, h1, h2⟩ := st
    exact ⟨k z (by simp) _ hz, k TI (by simp) _ hTI, ⟨x, y, k TO (by simp) _ hTO⟩, h1.at fun o q => k i1 (by simp) o q, h2.at fun o q => k i2 (by simp) o q⟩
  item := by
    intro X hP hw hK hc i pins s σ H E I hf st hg
    subst hP hw hK
    obtain ⟨hz, hTI, ⟨x0, y0, hTO⟩, h1, h2⟩ := st
    obtain ⟨xs, ys, x, y, hqx, hqy, hx, hy⟩ := hg
    obtain ⟨its, rv, p, _⟩ := I.tuple hqx
    obtain ⟨its2, rv2, p2, _⟩ := I.tuple hqy
    obtain ⟨u, hu, ru⟩ := rv.get hx
    obtain ⟨u2, hu2, ru2⟩ := rv2.get hy
    have hzl : z < s.heap.objs.size := Heap.lt_size hz
    refine RZ.pyNext_zipT_item D hz hTI hTO h1 h2 p p2 (x := u) (y := u2) (by simpa using hu) (by simpa using hu2) fun h' z' TO' h1' h2' hT hsz hk => ?_
    refine ⟨_, rfl, wpAny_letOwnedTupleGo_zip (s := { s with heap := h' }) z' fun h'' z'' sb => ?_⟩
    have hT2 : h''.get? s.heap.objs.size = some { cls := .type "tuple", data := .seq #[u, u2] } := (sb.2 _ (Nat.ne_of_gt hzl)).trans hT
    have new : ObjOk X.prog X.w (upd H s.heap.objs.size (tf { cls := .type "tuple", data := .seq #[u, u2] } [x, y])) h'' s.heap.objs.size (tf { cls := .type "tuple", data := .seq #[u, u2] } [x, y]) :=
      tf_ok (its := [u, u2]) (by show 2 ≤ sizeLine; decide) (.cons ru (.cons ru2 .nil)) hT2
    have I1 : Inv X pins σ (upd H s.heap.objs.size (tf { cls := .type "tuple", data := .seq #[u, u2] } [x, y])) { s with heap := h'' } :=
      I.turnedNew (t' := s.toks) (ch := [z, TI, TO, i1, i2]) (fun c o hb q => (sb.2 c (fun q' => hb (by simp [q']))).trans (hk c o (fun q' => hb (by simp [q'])) (fun q' => hb (by simp [q'])) (fun q' => hb (by simp [q'])) (fun q' => hb (by simp [q'])) q)) hf (Nat.le_refl _) new
    refine ⟨.ref s.heap.objs.size, _, I1, rfl, ⟨_, _, x, y, rfl, I.hok.fresh (Nat.le_refl _), rfl, rfl, fun l hl => by rw [I.tuple_inj hl hqx]; exact hx, fun l hl => by rw [I.tuple_inj hl hqy]; exact hy⟩, ⟨z'', ?_, ⟨u, u2, ?_⟩, ?_, ?_⟩, fun c hcm => ?_⟩
    · exact (sb.2 _ D.TIz).trans (hk _ _ D.TIz D.TITO D.TIi1 D.TIi2 hTI)
    · exact (sb.2 _ D.TOz).trans TO'
    · exact h1'.at fun o q => (sb.2 _ D.i1z).trans q
    · exact h2'.at fun o q => (sb.2 _ D.i2z).trans q
    · have hlt : c < s.heap.objs.size := by
        have e' : c = z ∨ c = TI ∨ c = TO ∨ c = i1 ∨ c = i2 := by simpa using hcm
        rcases e' with q | q | q | q | q
        · rw [q]; exact hzl
        · rw [q]; exact Heap.lt_size hTI
        · rw [q]; exact Heap.lt_size hTO
        · rw [q]; obtain ⟨_, e1, _⟩ := h1; exact Heap.lt_size e1
        · rw [q]; obtain ⟨_, e2, _⟩ := h2; exact Heap.lt_size e2
      rw [upd_ne (Nat.ne_of_lt hlt)]
      exact (hf c hcm).1
  done := by
    intro X hP hw hK hc i pins s σ H E I hf st hg
    subst hP hw hK
    obtain ⟨hz, hTI, ⟨x0, y0, hTO⟩, h1, h2⟩ := st
    obtain ⟨xs, ys, hqx, hqy, hend⟩ := hg
    obtain ⟨its, rv, p, _⟩ := I.tuple hqx
    obtain ⟨its2, rv2, p2, _⟩ := I.tuple hqy
    have l1 := rv.length
    have l2 := rv2.length
    have he : its.toArray[i]? = none ∨ its2.toArray[i]? = none := by
      rcases hend with q | q
      · exact .inl (by simp; omega)
      · exact .inr (by simp; omega)
    exact RZ.pyNext_zipT_end (I.ok.hd hc) D hz hTI hTO h1 h2 p p2 he fun h' hk => ⟨rfl, I.turnedL (t' := s.toks) (ch := [z, TI, TO, i1, i2]) (fun c o hb q =>
      hk c o (fun q' => hb (by simp [q'])) (fun q' => hb (by simp [q'])) (fun q' => hb (by simp [q'])) (fun q' => hb (by simp [q'])) q) hf⟩
  self := fun A i s Q E st h => wpAny_pyIter_zip st.1 h

def iZipF (K : PySem.W.Frag) (ta : TA) : TI := fun σ H R => ta σ H fun vs H1 => ∃ a b xs ys, vs = [.ref a, .ref b] ∧ ((SqL K H1 a xs ∧ SqL K H1 b ys ∧ R (ItzL K a b) H1) ∨ (SqT K H1 a xs ∧ SqT K H1 b ys ∧ R (ItzU K a b) H1))
theorem pi_zipF {X : Cx} {e e2 : Expr} {ta : TA} {p pos tpos : Pos} {elts : List Expr} {kk : Nat} (hg : Gl X "zip") (hm : X.mg "zip" = none) (ha : PA X [e, e2] ta)
    (hs : starEach [e, e2] X.env = (false, eval e X.env) :: starEach [e2] X.env) (hpl : (backTo pos (starEach [e2] X.env)).any (·.1) = false) :
    PI X (.Tuple elts kk tpos) (.Call (.Name "zip" p) [e, e2] [] pos) (iZipF X.K ta) := by
  refine ⟨fun pins s σ H R I h => ?_⟩
  refine Call_ (ld_blt I hg hm PyProof.Rows.boot_zip (PyProof.Rows.callWith_type1 (thn (ha.run pos pins s σ H _ I h) fun us s1 ⟨vs, H1, I1, r1, q1⟩ => ?_) hs hpl))
  obtain ⟨a, b, xs, ys, ex, q1⟩ := q1
  subst ex
  cases r1 with
  | cons r rr =>
    cases rr with
    | cons r' rr =>
      cases rr
      cases r
      cases r'
      have fresh5 : ∀ c, c ∈ [s1.heap.objs.size + 4, s1.heap.objs.size + 2, s1.heap.objs.size + 3, s1.heap.objs.size, s1.heap.objs.size + 1] → FpOk X pins H1 c := fun c hcm => by
        have e' : c = s1.heap.objs.size + 4 ∨ c = s1.heap.objs.size + 2 ∨ c = s1.heap.objs.size + 3 ∨ c = s1.heap.objs.size ∨ c = s1.heap.objs.size + 1 := by simpa using hcm
        have hle : s1.heap.objs.size ≤ c := by
          rcases e' with z | z | z | z | z
          · rw [z]; exact Nat.le_add_right _ _
          · rw [z]; exact Nat.le_add_right _ _
          · rw [z]; exact Nat.le_add_right _ _
          · rw [z]; exact Nat.le_refl _
          · rw [z]; exact Nat.le_add_right _ _
        exact I1.fpOk hle (I1.hok.fresh hle)
      rcases q1 with ⟨hqx, hqy, q⟩ | ⟨hqx, hqy, q⟩
      · obtain ⟨its, rv, p1, _⟩ := I1.list hqx
        obtain ⟨its2, rv2, p2, _⟩ := I1.list hqy
        refine call_zip_2 p1.isList p2.isList fun h' hz hTI hTO h1 h2 hsz hk => wpAny_pyIter_zip hz ?_
        have I2 : Inv X pins σ H1 { s1 with heap := h' } := I1.kept (t' := s1.toks) hk
        exact ⟨s1.heap.objs.size + 4, [s1.heap.objs.size + 4, s1.heap.objs.size + 2, s1.heap.objs.size + 3, s1.heap.objs.size, s1.heap.objs.size + 1], _, _, H1, rfl, I2, turn_zL (PySem.W.ktu_apart s1.heap.objs.size a b p1.lt p2.lt), ⟨hz, hTI, ⟨_, _, hTO⟩, h1, h2⟩, fresh5, q⟩
      · obtain ⟨its, rv, p1, _⟩ := I1.tuple hqx
        obtain ⟨its2, rv2, p2, _⟩ := I1.tuple hqy
        obtain ⟨o1, ho1, _⟩ := id p1
        obtain ⟨o2, ho2, _⟩ := id p2
        refine RZ.call_zipT (show s1.heap.IsTuple a its.toArray from p1) (show s1.heap.IsTuple b its2.toArray from p2) fun h' hz hTI hTO h1 h2 hsz hk => wpAny_pyIter_zip hz ?_
        have I2 : Inv X pins σ H1 { s1 with heap := h' } := I1.kept (t' := s1.toks) hk
        exact ⟨s1.heap.objs.size + 4, [s1.heap.objs.size + 4, s1.heap.objs.size + 2, s1.heap.objs.size + 3, s1.heap.objs.size, s1.heap.objs.size + 1], _, _, H1, rfl, I2, turn_zU (PySem.W.ktu_apart s1.heap.objs.size a b (Heap.lt_size ho1) (Heap.lt_size ho2)), ⟨hz, hTI, ⟨_, _, hTO⟩, h1, h2⟩, fresh5, q⟩

/-- the list at a, each item in a new pair -/
def IteL (K : PySem.W.Frag) (a : Addr) : It :=
  ⟨fun i H => ∃ (xs : List V) (x : V), SqL K H a xs ∧ xs[i]? = some x, fun i H v H' => ∃ T o x, v = .ref T ∧ H T = none ∧ o.dict = none ∧ H' = upd H T (tf o [.int (i : Nat), x]) ∧ ∀ xs, SqL K H a xs → xs[i]? = some x, fun i H => ∃ xs : List V, SqL K H a xs ∧ xs.length ≤ i⟩
theorem turn_eL {P : Program} {w : World} {K : PySem.W.Frag} {elts : List Expr} {kk : Nat} {tpos : Pos} (a e it : Addr) :
    Turn P w K (.Tuple elts kk tpos) (IteL K a) [e, it] e (fun i h => (∃ old, IsEnum h e it ((i : Nat) : Int) old) ∧ h.IsListIter it a i ∧ e ≠ it) where
  mem := by simp
  obj := fun i h st b hb => by
    obtain ⟨⟨old, he⟩, ⟨o, ho, hc, hd⟩, _⟩ := st
    have e' : b = e ∨ b = it := by simpa using hb
    rcases e' with z | z
    · rw [z]; exact ⟨_, he, fun v q => nomatch q⟩
    · rw [z]; exact ⟨o, ho, fun v q => by rw [hd] at q; cases q⟩
  keep := fun i h h' st k => let ⟨⟨old, he⟩, hi, hne⟩ := st; ⟨⟨old, k e (by simp) _ he⟩, hi.at fun o q => k it (by simp) o q, hne⟩
  item := by
    intro X hP hw hK hc i pins s σ H E I hf st hg
    subst hP hw hK
    obtain ⟨⟨old, he⟩, hit, hne⟩ := st
    obtain ⟨xs, x, hq, hx⟩ := hg
    obtain ⟨its, rv, p, hz⟩ := I.list hq
    obtain ⟨u, hu, ru⟩ := rv.get hx
    have hel : e < s.heap.objs.size := Heap.lt_size he
    have hil : it < s.heap.objs.size := by obtain ⟨_, q, _⟩ := hit; exact Heap.lt_size q
    refine wpAny_pyNext_enum_item he hit p.isList (x := u) (by simpa using hu) hne fun h' ho hit' hT hsz hk => ?_
    refine ⟨_, rfl, wpAny_letOwnedTupleGo_enum (s := { s with heap := h', toks := s.toks + 1 }) ho fun h'' he' sb => ?_⟩
    have hT2 : h''.get? s.heap.objs.size = some { cls := .type "tuple", data := .seq #[.int i s.toks, u] } := (sb.2 _ (Nat.ne_of_gt hel)).trans hT
    have new : ObjOk X.prog X.w (upd H s.heap.objs.size (tf { cls := .type "tuple", data := .seq #[.int i s.toks, u] } [.int (i : Nat), x])) h'' s.heap.objs.size (tf { cls := .type "tuple", data := .seq #[.int i s.toks, u] } [.int (i : Nat), x]) :=
      tf_ok (its := [.int i s.toks, u]) (by show 2 ≤ sizeLine; decide) (.cons ⟨_, rfl⟩ (.cons ru .nil)) hT2
    have I1 : Inv X pins σ (upd H s.heap.objs.size (tf { cls := .type "tuple", data := .seq #[.int i s.toks, u] } [.int (i : Nat), x])) { s with heap := h'', toks := s.toks + 1 } :=
      I.turnedNew (ch := [e, it]) (fun b ob hb q => (sb.2 b (fun z => hb (by simp [z]))).trans (hk b ob (fun z => hb (by simp [z])) (fun z => hb (by simp [z])) q)) hf (Nat.le_refl _) new
    refine ⟨.ref s.heap.objs.size, _, I1, rfl, ⟨_, _, x, rfl, I.hok.fresh (Nat.le_refl _), rfl, rfl, fun ys hy => by rw [I.list_inj hy hq]; exact hx⟩, ⟨⟨u, ?_⟩, hit'.at fun o q => (sb.2 it (Ne.symm hne)).trans q, hne⟩, fun b hb => ?_⟩
    · have e1 : ((i + 1 : Nat) : Int) = (i : Int) + 1 := by omega
      rw [e1]; exact he'
    · have hb' : b < s.heap.objs.size := by
        have e' : b = e ∨ b = it := by simpa using hb
        rcases e' with z | z
        · rw [z]; exact hel
        · rw [z]; exact hil
      rw [upd_ne (Nat.ne_of_lt hb')]
      exact (hf b hb).1
  done := by
    intro X hP hw hK hc i pins s σ H E I hf st hg
    subst hP hw hK
    obtain ⟨⟨old, he⟩, hit, hne⟩ := st
    obtain ⟨xs, hq, hx⟩ := hg
    obtain ⟨its, rv, p, hz⟩ := I.list hq
    obtain ⟨f0, f1, f2, f3, f4, f5⟩ := hf it (by simp)
    have hl := rv.length
    exact wpAny_pyNext_enum_end (I.ok.hd hc) he hit p.isList (by simp; omega) fun h' eb => ⟨rfl, I.turned (t' := s.toks) (fun b o hb q => eb b o hb q) f0 f1 f3 f4 f5⟩
  self := fun A i s Q E st h => let ⟨⟨_, he⟩, _⟩ := st; wpAny_pyIter_enum he h
def iEnumF (K : PySem.W.Frag) (ta : TA) : TI := fun σ H R => ta σ H fun vs H1 => ∃ a xs, vs = [.ref a] ∧ ((SqL K H1 a xs ∧ R (IteL K a) H1) ∨ (SqT K H1 a xs ∧ R (IteT K a) H1))
theorem pi_enumF {X : Cx} {e : Expr} {ta : TA} {p pos tpos : Pos} {elts : List Expr} {kk : Nat} (hg : Gl X "enumerate") (hm : X.mg "enumerate" = none) (ha : PA X [e] ta) (hs : starEach [e] X.env = [(false, eval e X.env)] := by rfl) :
    PI X (.Tuple elts kk tpos) (.Call (.Name "enumerate" p) [e] [] pos) (iEnumF X.K ta) := by
  refine ⟨fun pins s σ H R I h => ?_⟩
  refine Call_ (ld_blt I hg hm boot_enumerate (PyProof.Rows.callWith_type1 (thn (ha.run pos pins s σ H _ I h) fun us s1 ⟨vs, H1, I1, r1, q1⟩ => ?_) hs rfl))
  obtain ⟨a, xs, ex, q⟩ := q1
  subst ex
  cases r1 with
  | cons r rr =>
    cases rr
    cases r
    have fresh : ∀ b ∈ [s1.heap.objs.size + 1, s1.heap.objs.size], FpOk X pins H1 b := fun b hb => by
      have e' : b = s1.heap.objs.size + 1 ∨ b = s1.heap.objs.size := by simpa using hb
      have hle : s1.heap.objs.size ≤ b := by
        rcases e' with z | z
        · rw [z]; exact Nat.le_add_right _ _
        · rw [z]; exact Nat.le_refl _
      exact I1.fpOk hle (I1.hok.fresh hle)
    rcases q with ⟨hq, q⟩ | ⟨hq, q⟩
    · obtain ⟨its, rv, p', hz⟩ := I1.list hq
      refine call_enumerate_list p'.isList fun h' he hit hsz hk => wpAny_pyIter_enum he ?_
      have I2 : Inv X pins σ H1 { s1 with heap := h' } := I1.kept (t' := s1.toks) hk
      exact ⟨s1.heap.objs.size + 1, [s1.heap.objs.size + 1, s1.heap.objs.size], _, _, H1, rfl, I2, turn_eL a (s1.heap.objs.size + 1) s1.heap.objs.size, ⟨⟨.none, he⟩, hit, Nat.succ_ne_self _⟩, fresh, q⟩
    · obtain ⟨its, rv, p', hz⟩ := I1.tuple hq
      have hlt := p'.lt
      refine call_enumerate_tup p' fun h' he hit hsz hk => wpAny_pyIter_enum he ?_
      have I2 : Inv X pins σ H1 { s1 with heap := h' } := I1.kept (t' := s1.toks) hk
      exact ⟨s1.heap.objs.size + 1, [s1.heap.objs.size + 1, s1.heap.objs.size], _, _, H1, rfl, I2, turn_enumT a (s1.heap.objs.size + 1) s1.heap.objs.size, ⟨⟨.none, he⟩, hit, Nat.succ_ne_self _, Nat.ne_of_lt hlt, Nat.ne_of_lt (Nat.lt_succ_of_lt hlt)⟩, fresh, q⟩

/-! ### walks -/
/-- a new pair of the i-th of xs and the i-th of ys -/
def YPairF (xs ys : Nat → Option V) : Nat → Hp → V → Hp → Prop := fun i H v H' => ∃ T o x y, v = .ref T ∧ H T = none ∧ o.dict = none ∧ H' = upd H T (tf o [x, y]) ∧ xs i = some x ∧ ys i = some y
section
variable {K : PySem.W.Frag} {a b d : Addr} {xs ys : List V}
theorem walk_eT : Walk (IteT K a) xs.length (fun H => SqT K H a xs) (YPairF (fun i => some (.int (i : Nat))) (fun i => xs[i]?)) := by
  refine ⟨fun i _ hi q => ⟨xs, xs[i], q, by simp [hi]⟩, fun _ q => ⟨xs, q, Nat.le_refl _⟩, fun i H v H' _ q y => ?_⟩
  obtain ⟨T, o, x, h1, h2, h0, h3, h4⟩ := y
  exact ⟨T, o, .int (i : Nat), x, h1, h2, h0, h3, rfl, h4 xs q⟩
theorem walk_eL : Walk (IteL K a) xs.length (fun H => SqL K H a xs) (YPairF (fun i => some (.int (i : Nat))) (fun i => xs[i]?)) := by
  refine ⟨fun i _ hi q => ⟨xs, xs[i], q, by simp [hi]⟩, fun _ q => ⟨xs, q, Nat.le_refl _⟩, fun i H v H' _ q y => ?_⟩
  obtain ⟨T, o, x, h1, h2, h0, h3, h4⟩ := y
  exact ⟨T, o, .int (i : Nat), x, h1, h2, h0, h3, rfl, h4 xs q⟩
theorem walk_zU {n : Nat} (hn : n = min xs.length ys.length) : Walk (ItzU K a b) n (fun H => SqT K H a xs ∧ SqT K H b ys) (YPairF (fun i => xs[i]?) (fun i => ys[i]?)) := by
  subst hn
  refine ⟨fun i _ hi q => ?_, fun _ q => ⟨xs, ys, q.1, q.2, by omega⟩, fun i H v H' _ q y => ?_⟩
  · have h1 : i < xs.length := by omega
    have h2 : i < ys.length := by omega
    exact ⟨xs, ys, xs[i], ys[i], q.1, q.2, by simp [h1], by simp [h2]⟩
  · obtain ⟨T, o, x, z, h1, h2, h0, h3, h4, h5⟩ := y
    exact ⟨T, o, x, z, h1, h2, h0, h3, h4 xs q.1, h5 ys q.2⟩
theorem walk_zL {n : Nat} (hn : n = min xs.length ys.length) : Walk (ItzL K a b) n (fun H => SqL K H a xs ∧ SqL K H b ys) (YPairF (fun i => xs[i]?) (fun i => ys[i]?)) := by
  subst hn
  refine ⟨fun i _ hi q => ?_, fun _ q => ⟨xs, ys, q.1, q.2, by omega⟩, fun i H v H' _ q y => ?_⟩
  · have h1 : i < xs.length := by omega
    have h2 : i < ys.length := by omega
    exact ⟨xs, ys, xs[i], ys[i], q.1, q.2, by simp [h1], by simp [h2]⟩
  · obtain ⟨T, o, x, z, h1, h2, h0, h3, h4, h5⟩ := y
    exact ⟨T, o, x, z, h1, h2, h0, h3, h4 xs q.1, h5 ys q.2⟩
end
end DT

end
section
/-! DT: values without addresses, a small form of expressions and statements, and what they are worth. -/
namespace DT
open PySem L2

/-- a value without addresses; a list here is one that nobody changes any more; an instance has a class and its fields -/
inductive D where
  | non | bl (b : Bool) | int (i : Int) | str (x : Str) | tup (ds : List D) | lst (ds : List D) | ins (c : Str) (ds : List D) | cls (c : Str) | dic (ks : List Int) (ds : List D)
  deriving Inhabited
/-- what a slot holds: a value; a list of its own; a list that is lent -/
inductive W where
  | val (d : D) | own (ds : List D) | bor (ds : List D)
/-- an operand: a slot, or a value just made -/
inductive Pl where
  | slot (i : Nat) | tmp (w : W)
abbrev Ro := List (Option W)

/-- the largest size of a list or a text -/
def big : Nat := 1000000

/-- one thing behind another -/
def bnd1 {α γ : Type} (x : Option α) (f : α → Option γ) : Option γ := match x with
  | some a => f a
  | none => none
def bnd2 {α β γ : Type} (x : Option (α × β)) (f : α → β → Option γ) : Option γ := match x with
  | some (a, b) => f a b
  | none => none
def req {γ : Type} (c : Bool) (x : Option γ) : Option γ := match c with
  | true => x
  | false => none
@[simp] theorem bnd1_some {α γ : Type} (a : α) (f : α → Option γ) : bnd1 (some a) f = f a := Eq.trans rfl rfl
@[simp] theorem bnd2_some {α β γ : Type} (a : α) (b : β) (f : α → β → Option γ) : bnd2 (some (a, b)) f = f a b := Eq.trans rfl rfl
@[simp] theorem req_true {γ : Type} (x : Option γ) : req true x = x := Eq.trans rfl rfl
theorem bnd1_of {α γ : Type} {x : Option α} {f : α → Option γ} {z : γ} (h : bnd1 x f = some z) : ∃ a, x = some a ∧ f a = some z := by
  cases x with
  | none => cases h
  | some p => exact ⟨p, rfl, h⟩
theorem bnd2_of {α β γ : Type} {x : Option (α × β)} {f : α → β → Option γ} {z : γ} (h : bnd2 x f = some z) : ∃ a b, x = some (a, b) ∧ f a b = some z := by
  cases x with
  | none => cases h
  | some p => exact ⟨p.1, p.2, rfl, h⟩
theorem req_of {γ : Type} {c : Bool} {x : Option γ} {z : γ} (h : req c x = some z) : c = true ∧ x = some z := by
  cases c with
  | true => exact ⟨rfl, h⟩
  | false => cases h

mutual
def toPy : D → Option PyData
  | .non => some .none
  | .bl b => some (.bool b)
  | .int i => some (.int i)
  | .str x => some (.str x)
  | .tup ds => (toPys ds).map .tuple
  | .lst ds => (toPys ds).map .list
  | .ins _ _ => none
  | .cls _ => none
  | .dic _ _ => none
def toPys : List D → Option (List PyData)
  | [] => some []
  | d :: ds => match toPy d, toPys ds with
    | some x, some xs => some (x :: xs)
    | _, _ => none
end

/-- == of data -/
def eqD (a b : D) : Option Bool := match toPy a, toPy b with
  | some x, some y => if SeqAt.shaped x && SeqAt.shaped y then some (PyData.eqv x y) else none
  | _, _ => none
/-- in -/
def inD (a : D) (ds : List D) : Option Bool := match toPy a, toPys ds with
  | some x, some ys => if SeqAt.shaped x && SeqAt.shaped (.list ys) then some (ys.any fun y => PyData.eqv y x) else none
  | _, _ => none

def getW (ρ : Ro) : Pl → Option W
  | .slot i => (ρ[i]?).join
  | .tmp w => some w
/-- what is to be read, a lent list left out -/
def cont : W → Option D
  | .val d => some d
  | .own ds => some (.lst ds)
  | .bor _ => none
/-- what is to be read -/
def contQ : W → D
  | .val d => d
  | .own ds => .lst ds
  | .bor ds => .lst ds
def getC (ρ : Ro) (p : Pl) : Option D := (getW ρ p).bind cont
def getQ (ρ : Ro) (p : Pl) : Option D := (getW ρ p).map contQ
/-- handed on as a value: a list of one's own is given away -/
def toVal (ρ : Ro) : Pl → Option (D × Ro)
  | .slot i => match (ρ[i]?).join with
    | some (.val d) => some (d, ρ)
    | some (.own ds) => some (.lst ds, ρ.set i (some (.val (.lst ds))))
    | _ => none
  | .tmp (.val d) => some (d, ρ)
  | .tmp (.own ds) => some (.lst ds, ρ)
  | .tmp _ => none
def toVals (ρ : Ro) : List Pl → Option (List D × Ro)
  | [] => some ([], ρ)
  | p :: ps => match toVal ρ p with
    | some (d, ρ1) => match toVals ρ1 ps with
      | some (ds, ρ2) => some (d :: ds, ρ2)
      | none => none
    | none => none
def seqD : D → Option (List D)
  | .tup ds => some ds
  | .lst ds => some ds
  | _ => none

inductive Op2 where | add | sub | mul | fdiv | mod | pow
  deriving DecidableEq
inductive Cm where | eq | ne | lt | le | gt | ge | isin | notin | isN | isnotN
  deriving DecidableEq
/-- how a parameter is handed: as a value, to be changed in place, lent -/
inductive Mode where | val | own | bor
  deriving DecidableEq
/-- a def: how its parameters are handed, and what it does: the result, and the lists that were to be changed -/
structure Fn where
  modes : List Mode
  run : List D → Option (W × List (List D))

def bin2 : Op2 → D → D → Option W
  | .add, .int a, .int b => some (.val (.int (a + b)))
  | .add, .str a, .str b => if a.length + b.length ≤ big then some (.val (.str (a ++ b))) else none
  | .add, .tup a, .tup b => if a.length + b.length ≤ big then some (.val (.tup (a ++ b))) else none
  | .add, .lst a, .lst b => if a.length + b.length ≤ big then some (.own (a ++ b)) else none
  | .sub, .int a, .int b => some (.val (.int (a - b)))
  | .mul, .int a, .int b => if (decide (-(2 ^ 64) < a) && decide (a < 2 ^ 64)) || (decide (-(2 ^ 64) < b) && decide (b < 2 ^ 64)) then some (.val (.int (a * b))) else none
  | .mul, .lst a, .int k => if 0 ≤ k ∧ k < 1000 ∧ a.length * k.toNat ≤ big then some (.own (List.replicate k.toNat a).flatten) else none
  | .fdiv, .int a, .int b => if 0 < b ∧ b < 1073741824 then some (.val (.int (a / b))) else none
  | .mod, .int a, .int b => if 0 < b then some (.val (.int (a % b))) else none
  | .pow, .int a, .int b => if 0 ≤ b ∧ b ≤ 1000 ∧ a.natAbs < 1000 then some (.val (.int (a ^ b.toNat))) else none
  | _, _, _ => none
def intsD : List D → Option (List Int)
  | [] => some []
  | .int i :: r => match intsD r with
    | some l => some (i :: l)
    | none => none
  | _ :: _ => none
def isNon : D → Bool
  | .non => true
  | _ => false
def dicAt : List Int → List D → Int → Option D
  | k :: ks, d :: ds, i => if k = i then some d else dicAt ks ds i
  | _, _, _ => none
def cmp2 : Cm → D → D → Option Bool
  | .eq, a, b => eqD a b
  | .ne, a, b => (eqD a b).map not
  | .lt, .int a, .int b => some (decide (a < b))
  | .le, .int a, .int b => some (decide (a ≤ b))
  | .gt, .int a, .int b => some (decide (b < a))
  | .ge, .int a, .int b => some (decide (b ≤ a))
  | .lt, .tup a, .tup b => match intsD a, intsD b with
    | some x, some y => some (HT.lexLt x y)
    | _, _ => none
  | .isin, a, .tup ds => inD a ds
  | .isin, a, .lst ds => inD a ds
  | .notin, a, .tup ds => (inD a ds).map not
  | .notin, a, .lst ds => (inD a ds).map not
  | .isin, .int i, .dic ks ds => some (dicAt ks ds i).isSome
  | .notin, .int i, .dic ks ds => some (!(dicAt ks ds i).isSome)
  | .isN, a, .non => some (isNon a)
  | .isnotN, a, .non => some (!isNon a)
  | _, _, _ => none

/-- o[i] -/
def ixD : D → D → Option D
  | .tup ds, .int i => atI ds i
  | .lst ds, .int i => atI ds i
  | .dic ks ds, .int i => dicAt ks ds i
  | .str x, .int i => if x.length ≤ big then (atI x.cps.toList i).map fun c => .str ⟨#[c]⟩ else none
  | _, _ => none
def cutD {α : Type} (xs : List α) (lo hi : Option Int) : List α := (xs.drop (HT.sIx xs.length 0 lo)).take (HT.sIx xs.length xs.length hi - HT.sIx xs.length 0 lo)
/-- o[lo:hi] -/
def slD : D → Option Int → Option Int → Option W
  | .tup ds, lo, hi => some (.val (.tup (cutD ds lo hi)))
  | .lst ds, lo, hi => some (.own (cutD ds lo hi))
  | .str x, lo, hi => if x.length ≤ big then some (.val (.str (Txt.slice x lo hi))) else none
  | _, _, _ => none

/-- built-in functions, by what they read -/
inductive Bi where
  | len | tuple | list | all | any | str | repr | max2 | min2 | listRange | tupleRange | lenSet | sortedSet | isInt | isBool | isTuple | isStr | isIns (c : Str) | dictOf | sorted | min | listZip | kget (x : Str) (t : List (Str × Int))
  deriving DecidableEq
/-- methods of built-in types -/
inductive Bm where
  | join | split | startswith | endswith | get | index | count | text
  deriving DecidableEq
def boolsD : List D → Option (List Bool)
  | [] => some []
  | .bl i :: r => match boolsD r with
    | some l => some (i :: l)
    | none => none
  | _ :: _ => none
def strsD : List D → Option (List Str)
  | [] => some []
  | .str i :: r => match strsD r with
    | some l => some (i :: l)
    | none => none
  | _ :: _ => none
def rangeD (a b : Int) : List D := (List.range (b - a).toNat).map fun i => D.int (a + (i : Nat))
def shownD (d : D) : Option Str := match toPy d with
  | some x => if x.showable && decide (x.shown.length ≤ big) && decide (x.depth ≤ 60) && !x.hasDict then some x.shown else none
  | none => none
def intText (i : Int) : Str := Str.ofString (toString i)
def signs (x : Str) : List D := x.cps.toList.map fun c => D.str ⟨#[c]⟩
def nodupI : List Int → Bool
  | [] => true
  | i :: r => !r.contains i && nodupI r
def biLen : List D → Option W
  | [.tup ds] => some (.val (.int ds.length))
  | [.lst ds] => some (.val (.int ds.length))
  | [.str x] => req (decide (x.length ≤ big)) (some (.val (.int x.length)))
  | _ => none
def biTuple : List D → Option W
  | [.tup ds] => some (.val (.tup ds))
  | [.lst ds] => some (.val (.tup ds))
  | _ => none
def biList : List D → Option W
  | [.tup ds] => some (.own ds)
  | [.lst ds] => some (.own ds)
  | _ => none
def biAll : List D → Option W
  | [.lst ds] => bnd1 (boolsD ds) fun l => some (.val (.bl (l.all id)))
  | _ => none
def biAny : List D → Option W
  | [.lst ds] => bnd1 (boolsD ds) fun l => some (.val (.bl (l.any id)))
  | _ => none
def biStr : List D → Option W
  | [.int i] => req (decide (i.natAbs < 1000000)) (some (.val (.str (intText i))))
  | [.str x] => some (.val (.str x))
  | _ => none
def biRepr : List D → Option W
  | [d] => bnd1 (shownD d) fun x => some (.val (.str x))
  | _ => none
def biMax2 : List D → Option W
  | [.int a, .int b] => some (.val (.int (if b > a then b else a)))
  | _ => none
def biMin2 : List D → Option W
  | [.int a, .int b] => some (.val (.int (if b < a then b else a)))
  | _ => none
def biListRange : List D → Option W
  | [.int n] => req (decide (-1000000 ≤ n) && decide (n ≤ 1000000)) (some (.own (rangeD 0 n)))
  | _ => none
def biTupleRange : List D → Option W
  | [.int n] => req (decide (-1000000 ≤ n) && decide (n ≤ 1000000)) (some (.val (.tup (rangeD 0 n))))
  | _ => none
/-- isinstance of a value that is no instance -/
def tyD : D → Option (Bool × Bool × Bool × Bool)
  | .non => some (false, false, false, false)
  | .bl _ => some (true, true, false, false)
  | .int _ => some (true, false, false, false)
  | .str _ => some (false, false, true, false)
  | .tup _ => some (false, false, false, true)
  | _ => none
def biIsInt : List D → Option W
  | [d] => bnd1 (tyD d) fun t => some (.val (.bl t.1))
  | _ => none
def biIsBool : List D → Option W
  | [d] => bnd1 (tyD d) fun t => some (.val (.bl t.2.1))
  | _ => none
def biIsStr : List D → Option W
  | [d] => bnd1 (tyD d) fun t => some (.val (.bl t.2.2.1))
  | _ => none
def biIsTuple : List D → Option W
  | [d] => bnd1 (tyD d) fun t => some (.val (.bl t.2.2.2))
  | _ => none
def biIsIns (c : Str) : List D → Option W
  | [.ins c' _] => req (decide (c' = c)) (some (.val (.bl true)))
  | _ => none
def biKget (t : List (Str × Int)) : List D → Option W
  | [.str x, .int e] => some (.val (.int ((t.lookup x).getD e)))
  | _ => none
/-- the places of the different ints -/
def dedup : List Int → List Int
  | [] => []
  | i :: r => i :: (dedup r).filter (· != i)
def biLenSet : List D → Option W
  | [.tup ds] => bnd1 (intsD ds) fun ns => req (decide (ns.length < 1000)) (some (.val (.int (dedup ns).length)))
  | _ => none
/-- the pairs' keys, values -/
def pairsD : List D → Option (List Int × List D)
  | [] => some ([], [])
  | .tup [.int k, d] :: r => bnd2 (pairsD r) fun ks ds => some (k :: ks, d :: ds)
  | _ :: _ => none
def biDict : List D → Option W
  | [.tup ps] => bnd2 (pairsD ps) fun ks ds => req (nodupI ks && decide (ks.length ≤ 1000)) (some (.val (.dic ks ds)))
  | _ => none
/-! min of pairs -/
def ltP (k m : Int × List Int) : Bool := if k.1 = m.1 then (if k.2 = m.2 then false else HT.lexLt k.2 m.2) else decide (k.1 < m.1)
/-- the place of the best of the first k + 1 -/
def argB (bt : Nat → Nat → Bool) : Nat → Nat
  | 0 => 0
  | k + 1 => if bt (k + 1) (argB bt k) then k + 1 else argB bt k
def pairI : D → Option (Int × List Int)
  | .tup [.int n, .tup ns] => bnd1 (intsD ns) fun l => some (n, l)
  | _ => none
def pairsI : List D → Option (List (Int × List Int))
  | [] => some []
  | d :: r => bnd1 (pairI d) fun k => bnd1 (pairsI r) fun ks => some (k :: ks)
def ltAt (ks : List (Int × List Int)) : Nat → Nat → Bool := fun i j => ltP (ks.getD i (0, [])) (ks.getD j (0, []))
def biMin : List D → Option W
  | [.lst ds] => bnd1 (pairsI ds) fun ks => bnd1 (ds[argB (ltAt ks) (ks.length - 1)]?) fun d => some (.val d)
  | _ => none
def biRun : Bi → List D → Option W
  | .isInt => biIsInt | .isBool => biIsBool | .isStr => biIsStr | .isTuple => biIsTuple | .isIns c => biIsIns c | .kget _ t => biKget t | .lenSet => biLenSet | .dictOf => biDict
  | .min => biMin | .len => biLen | .tuple => biTuple | .list => biList | .all => biAll | .any => biAny | .str => biStr | .repr => biRepr | .max2 => biMax2 | .min2 => biMin2 | .listRange => biListRange | .tupleRange => biTupleRange
  | _ => fun _ => none
def bmJoin : D → List D → Option W
  | .str x, [.lst ds] => bnd1 (strsD ds) fun ys => req (decide ((ys.map (·.length)).sum + ys.length * x.length ≤ big)) (some (.val (.str (Txt.join x ys))))
  | _, _ => none
def bmSplit : D → List D → Option W
  | .str a, [.str b] => req (decide (0 < b.length) && decide (a.length ≤ big)) (some (.own ((Txt.split a b).map .str)))
  | _, _ => none
def bmStarts : D → List D → Option W
  | .str a, [.str b] => some (.val (.bl (Txt.startswith a b)))
  | _, _ => none
def bmEnds : D → List D → Option W
  | .str a, [.str b] => some (.val (.bl (Txt.endswith a b)))
  | _, _ => none
/-- d.get(k, e) -/
def plainD : D → Bool
  | .non => true | .bl _ => true | .int _ => true | .str _ => true | _ => false
def bmGet : D → List D → Option W
  | .dic ks ds, [.int k, e] => req (plainD e) (some (.val ((dicAt ks ds k).getD e)))
  | _, _ => none
def bmRun : Bm → D → List D → Option W
  | .get => bmGet
  | .join => bmJoin | .split => bmSplit | .startswith => bmStarts | .endswith => bmEnds
  | _ => fun _ _ => none

/-- targets -/
inductive G where
  | name (i : Nat) | tup (gs : List G)
mutual
def asg : G → D → Ro → Option Ro
  | .name i, d, ρ => some (ρ.set i (some (.val d)))
  | .tup gs, .tup ds, ρ => asgs gs ds ρ
  | .tup _, _, _ => none
def asgs : List G → List D → Ro → Option Ro
  | [], [], ρ => some ρ
  | g :: gs, d :: ds, ρ => match asg g d ρ with
    | some ρ1 => asgs gs ds ρ1
    | none => none
  | _, _, _ => none
end

/-- expressions. sl: lo, hi may be E.nil (left out). comp: element, target, what is walked, a test (E.nil: none), the comprehension's own slots -/
inductive E where
  | nil
  | var (i : Nat) | cst (d : D) | glob (x : Str)
  | tup (es : List E) | lst (es : List E) | star (e : E)
  | bin (o : Op2) (a b : E) | neg (a : E)
  | cmp (o : Cm) (a b : E) | chain (o o2 : Cm) (a b c : E)
  | and (a b : E) | or (a b : E) | not (a : E) | ife (c a b : E)
  | ix (a b : E) | sl (a lo hi : E) | rev (a : E)
  | fld (c : Str) (f : Nat) (a : E)
  | call (f : Nat) (es : List E) | callm (f : Nat) (e : E) (es : List E)
  | bi (b : Bi) (es : List E) | bm (m : Bm) (o : E) (es : List E) | signs (e : E)
  | popAt (i : Nat) (e : E)
  | comp (elt : E) (g : G) (it : E) (c : E) (own : List Nat)
  | comp2 (elt : E) (g : G) (it : E) (c : E) (own : List Nat) (g1 : G) (it1 : E) (c1 : E) (own1 : List Nat)
  | fstr (es : List E)
  | seq (e : E) | rng1 (a : E) | rng2 (a b : E) | zip (a b : E) | enum (a : E)

/-- the operands that are handed as values -/
def valPs : List Mode → List Pl → List Pl
  | .val :: ms, p :: ps => p :: valPs ms ps
  | _ :: ms, _ :: ps => valPs ms ps
  | _, _ => []
/-- all arguments: the values are known -/
def mergeA (ρ : Ro) : List Mode → List Pl → List D → Option (List D)
  | [], [], [] => some []
  | .val :: ms, _ :: ps, d :: ds => match mergeA ρ ms ps ds with
    | some r => some (d :: r)
    | none => none
  | .own :: ms, .slot i :: ps, ds => match (ρ[i]?).join with
    | some (.own l) => match mergeA ρ ms ps ds with
      | some r => some (.lst l :: r)
      | none => none
    | _ => none
  | .bor :: ms, p :: ps, ds => match getQ ρ p with
    | some (.lst l) => match mergeA ρ ms ps ds with
      | some r => some (.lst l :: r)
      | none => none
    | _ => none
  | _, _, _ => none
/-- the slots that are handed to be changed, those that are lent -/
def ownSlots : List Mode → List Pl → List Nat
  | .own :: ms, .slot i :: ps => i :: ownSlots ms ps
  | _ :: ms, _ :: ps => ownSlots ms ps
  | _, _ => []
def borSlots : List Mode → List Pl → List Nat
  | .bor :: ms, .slot i :: ps => i :: borSlots ms ps
  | _ :: ms, _ :: ps => borSlots ms ps
  | _, _ => []
def nodupB : List Nat → Bool
  | [] => true
  | i :: r => !r.contains i && nodupB r
def okSlots (ms : List Mode) (ps : List Pl) : Bool := nodupB (ownSlots ms ps) && (ownSlots ms ps).all fun i => !(borSlots ms ps).contains i
def putBack (ρ : Ro) : List Mode → List Pl → List (List D) → Ro
  | .own :: ms, .slot i :: ps, l :: ls => (putBack ρ ms ps ls).set i (some (.own l))
  | .val :: ms, _ :: ps, ls => putBack ρ ms ps ls
  | .bor :: ms, _ :: ps, ls => putBack ρ ms ps ls
  | _, _, _ => ρ

def wipeR (ρ : Ro) : List Nat → Ro
  | [] => ρ
  | v :: vs => (wipeR ρ vs).set v none
/-- nothing of one's own stands in the slots -/
def clearR (ρ : Ro) (l : List Nat) : Bool := l.all fun v => match (ρ[v]?).join with
  | none => true
  | some (.val _) => true
  | _ => false
/-- the slots own back as they stood in ρ -/
def backR (ρ : Ro) (ρ1 : Ro) : List Nat → Ro
  | [] => ρ1
  | v :: vs => (backR ρ ρ1 vs).set v ((ρ[v]?).join)

def intD : D → Option Int
  | .int i => some i
  | _ => none
def strD : D → Option Str
  | .str i => some i
  | _ => none
def blD : D → Option Bool
  | .bl i => some i
  | _ => none
def lstD : D → Option (List D)
  | .lst i => some i
  | _ => none
def ownW : W → Option (List D)
  | .own l => some l
  | _ => none
def isSm (n : Int) : Bool := decide (-1000000 ≤ n) && decide (n ≤ 1000000)
/-- a test's answer -/
def tstOf (r : Option (Pl × Ro)) : Option (Bool × Ro) := bnd2 r fun p ρ => bnd1 (getQ ρ p) fun d => bnd1 (blD d) fun b => some (b, ρ)
/-- a comprehension's turns -/
def compL (own : List Nat) (g : G) (tst : Ro → Option (Bool × Ro)) (elt : Ro → Option (Pl × Ro)) : List D → Ro → List D → Option (List D × Ro)
  | [], ρ, acc => some (acc, ρ)
  | d :: ds, ρ, acc => bnd1 (asg g d ρ) fun ρ1 => bnd2 (tst ρ1) fun b ρ2 => match b with
    | true => bnd2 (elt ρ2) fun p ρ3 => bnd2 (toVal ρ3 p) fun x ρ4 => req (decide (acc.length < big)) (compL own g tst elt ds (wipeR ρ4 own) (acc ++ [x]))
    | false => compL own g tst elt ds (wipeR ρ2 own) acc
/-- .. with a second source in each turn -/
def compL2 (own : List Nat) (g : G) (tst : Ro → Option (Bool × Ro)) (it1 : Ro → Option (List D × Ro)) (own1 : List Nat) (inn : List D → Ro → List D → Option (List D × Ro)) : List D → Ro → List D → Option (List D × Ro)
  | [], ρ, acc => some (acc, ρ)
  | d :: ds, ρ, acc => bnd1 (asg g d ρ) fun ρ1 => bnd2 (tst ρ1) fun b ρ2 => match b with
    | true => bnd2 (it1 ρ2) fun es ρ3 => bnd2 (inn es (wipeR ρ3 own1) acc) fun acc' ρ4 => compL2 own g tst it1 own1 inn ds (wipeR ρ4 own) acc'
    | false => compL2 own g tst it1 own1 inn ds (wipeR ρ2 own) acc
def fmtD : D → Option Str
  | .str x => if x.length ≤ big then some x else none
  | .int i => if i.natAbs < 1000000 then some (intText i) else none
  | _ => none
def zipD : List D → List D → List D
  | x :: xs, y :: ys => .tup [x, y] :: zipD xs ys
  | _, _ => []
def enumD : Nat → List D → List D
  | _, [] => []
  | n, x :: xs => .tup [.int n, x] :: enumD (n + 1) xs
def getQs (ρ : Ro) : List Pl → Option (List D)
  | [] => some []
  | p :: ps => bnd1 (getQ ρ p) fun d => bnd1 (getQs ρ ps) fun ds => some (d :: ds)
/-- two of one kind side by side -/
def zip2 : D → D → Option (List D)
  | .tup xs, .tup ys => some (zipD xs ys)
  | .lst xs, .lst ys => some (zipD xs ys)
  | _, _ => none
/-- what is walked of a value -/
def walkP (ρ : Ro) (p : Pl) : Option (List D × Ro) := match toVal ρ p with
  | some (d, ρ2) => bnd1 (seqD d) fun ds => some (ds, ρ2)
  | none => bnd1 (getQ ρ p) fun d => bnd1 (lstD d) fun ds => some (ds, ρ)
def revW : D → Option W
  | .tup ds => some (.val (.tup ds.reverse))
  | .lst ds => some (.own ds.reverse)
  | _ => none
def fldD (c : Str) (f : Nat) : D → Option D
  | .ins c' ds => if c' = c then ds[f]? else none
  | _ => none
section
variable (Γ : Nat → Option Fn) (gl : Str → Option D)
mutual
def evE : E → Ro → Option (Pl × Ro)
  | .nil, ρ => some (.tmp (.val (.bl true)), ρ)
  | .var i, ρ => bnd1 ((ρ[i]?).join) fun _ => some (.slot i, ρ)
  | .cst d, ρ => some (.tmp (.val d), ρ)
  | .glob x, ρ => bnd1 (gl x) fun d => some (.tmp (.val d), ρ)
  | .tup es, ρ => bnd2 (evEs es ρ) fun ps ρ1 => bnd2 (toVals ρ1 ps) fun ds ρ2 => req (decide (ds.length ≤ big)) (some (.tmp (.val (.tup ds)), ρ2))
  | .lst es, ρ => bnd2 (evEs es ρ) fun ps ρ1 => bnd2 (toVals ρ1 ps) fun ds ρ2 => req (decide (ds.length ≤ big)) (some (.tmp (.own ds), ρ2))
  | .star _, _ => none
  | .bin o a b, ρ => bnd2 (evE a ρ) fun p ρ1 => bnd2 (evE b ρ1) fun q ρ2 => bnd1 (getC ρ2 p) fun x => bnd1 (getC ρ2 q) fun y => bnd1 (bin2 o x y) fun w => some (.tmp w, ρ2)
  | .neg a, ρ => bnd2 (evE a ρ) fun p ρ1 => bnd1 (getQ ρ1 p) fun x => bnd1 (intD x) fun i => some (.tmp (.val (.int (-i))), ρ1)
  | .cmp o a b, ρ => bnd2 (evE a ρ) fun p ρ1 => bnd2 (evE b ρ1) fun q ρ2 => bnd1 (getQ ρ2 p) fun x => bnd1 (getQ ρ2 q) fun y => bnd1 (cmp2 o x y) fun c => some (.tmp (.val (.bl c)), ρ2)
  | .chain o o2 a b c, ρ => bnd2 (evE a ρ) fun p ρ1 => bnd2 (evE b ρ1) fun q ρ2 => bnd1 (getQ ρ2 p) fun x => bnd1 (getQ ρ2 q) fun y => bnd1 (cmp2 o x y) fun k => match k with
    | false => some (.tmp (.val (.bl false)), ρ2)
    | true => bnd2 (evE c ρ2) fun r ρ3 => bnd1 (getQ ρ3 q) fun y' => bnd1 (getQ ρ3 r) fun z => bnd1 (cmp2 o2 y' z) fun d => some (.tmp (.val (.bl d)), ρ3)
  | .and a b, ρ => bnd2 (tstOf (evE a ρ)) fun k ρ1 => match k with
    | true => bnd2 (tstOf (evE b ρ1)) fun c ρ2 => some (.tmp (.val (.bl c)), ρ2)
    | false => some (.tmp (.val (.bl false)), ρ1)
  | .or a b, ρ => bnd2 (tstOf (evE a ρ)) fun k ρ1 => match k with
    | true => some (.tmp (.val (.bl true)), ρ1)
    | false => bnd2 (tstOf (evE b ρ1)) fun c ρ2 => some (.tmp (.val (.bl c)), ρ2)
  | .not a, ρ => bnd2 (tstOf (evE a ρ)) fun c ρ1 => some (.tmp (.val (.bl (!c))), ρ1)
  | .ife c a b, ρ => bnd2 (tstOf (evE c ρ)) fun k ρ1 => match k with
    | true => evE a ρ1
    | false => evE b ρ1
  | .ix a b, ρ => bnd2 (evE a ρ) fun p ρ1 => bnd2 (evE b ρ1) fun q ρ2 => bnd1 (getQ ρ2 p) fun x => bnd1 (getQ ρ2 q) fun y => bnd1 (ixD x y) fun d => some (.tmp (.val d), ρ2)
  | .sl a lo hi, ρ => bnd2 (evE a ρ) fun p ρ1 => bnd2 (evO lo ρ1) fun l ρ2 => bnd2 (evO hi ρ2) fun h ρ3 => bnd1 (getQ ρ3 p) fun x => bnd1 (slD x l h) fun w => some (.tmp w, ρ3)
  | .rev a, ρ => bnd2 (evE a ρ) fun p ρ1 => bnd1 (getQ ρ1 p) fun x => bnd1 (revW x) fun w => some (.tmp w, ρ1)
  | .fld c f a, ρ => bnd2 (evE a ρ) fun p ρ1 => bnd1 (getQ ρ1 p) fun x => bnd1 (fldD c f x) fun d => some (.tmp (.val d), ρ1)
  | .call f es, ρ => bnd2 (evEs es ρ) fun ps ρ1 => bnd1 (Γ f) fun fn => bnd2 (toVals ρ1 (valPs fn.modes ps)) fun vals ρ2 => bnd1 (mergeA ρ2 fn.modes ps vals) fun ds => req (okSlots fn.modes ps) (bnd2 (fn.run ds) fun w outs => some (.tmp w, putBack ρ2 fn.modes ps outs))
  | .callm f e es, ρ => bnd2 (evE e ρ) fun p ρ1 => bnd1 (getQ ρ1 p) fun d => bnd1 (Γ f) fun fn => bnd2 (evEs es ρ1) fun ps ρ2 => bnd2 (toVals ρ2 ps) fun ds ρ3 => bnd2 (fn.run (d :: ds)) fun w outs => req outs.isEmpty (some (.tmp w, ρ3))
  | .bi b es, ρ => bnd2 (evEs es ρ) fun ps ρ1 => bnd1 (getQs ρ1 ps) fun ds => bnd1 (biRun b ds) fun w => some (.tmp w, ρ1)
  | .bm m o es, ρ => bnd2 (evE o ρ) fun p ρ1 => bnd1 (getQ ρ1 p) fun d => bnd2 (evEs es ρ1) fun ps ρ2 => bnd1 (getQs ρ2 ps) fun ds => bnd1 (bmRun m d ds) fun w => some (.tmp w, ρ2)
  | .signs e, ρ => bnd2 (evE e ρ) fun p ρ1 => bnd1 (getQ ρ1 p) fun d => bnd1 (strD d) fun x => req (decide (x.length ≤ big)) (some (.tmp (.own (signs x)), ρ1))
  | .popAt i e, ρ => bnd1 ((ρ[i]?).join) fun w0 => bnd1 (ownW w0) fun _ => bnd2 (evE e ρ) fun p ρ1 => bnd1 (getQ ρ1 p) fun d => bnd1 (intD d) fun k => bnd1 ((ρ1[i]?).join) fun w => bnd1 (ownW w) fun ds => req (decide (0 ≤ k) && decide (k ≤ 1000000)) (bnd1 (ds[k.toNat]?) fun d => some (.tmp (.val d), ρ1.set i (some (.own (ds.eraseIdx k.toNat)))))
  | .comp elt g it c own, ρ => bnd2 (evI it ρ) fun ds ρ1 => req (clearR ρ1 own) (bnd2 (compL own g (fun ρ => tstOf (evE c ρ)) (fun ρ => evE elt ρ) ds (wipeR ρ1 own) []) fun out ρ2 => some (.tmp (.own out), backR ρ1 ρ2 own))
  | .comp2 elt g it c own g1 it1 c1 own1, ρ => bnd2 (evI it ρ) fun ds ρ1 => req (clearR ρ1 own) (bnd2 (compL2 own g (fun ρ => tstOf (evE c ρ)) (fun ρ => evI it1 ρ) own1 (compL own1 g1 (fun ρ => tstOf (evE c1 ρ)) (fun ρ => evE elt ρ)) ds (wipeR ρ1 own) []) fun out ρ2 => some (.tmp (.own out), backR ρ1 ρ2 own))
  | .fstr es, ρ => bnd2 (evFs es ρ Str.empty) fun x ρ1 => some (.tmp (.val (.str x)), ρ1)
  | .seq _, _ => none
  | .rng1 _, _ => none
  | .rng2 _ _, _ => none
  | .zip _ _, _ => none
  | .enum _, _ => none
/-- arguments, items; a starred one is read at once -/
def evEs : List E → Ro → Option (List Pl × Ro)
  | [], ρ => some ([], ρ)
  | .star e :: es, ρ => bnd2 (evE e ρ) fun p ρ1 => bnd1 (getQ ρ1 p) fun d => bnd1 (seqD d) fun ds => bnd2 (evEs es ρ1) fun ps ρ2 => some (ds.map (fun d => Pl.tmp (.val d)) ++ ps, ρ2)
  | e :: es, ρ => bnd2 (evE e ρ) fun p ρ1 => bnd2 (evEs es ρ1) fun ps ρ2 => some (p :: ps, ρ2)
/-- the parts of an f-string -/
def evFs : List E → Ro → Str → Option (Str × Ro)
  | [], ρ, acc => some (acc, ρ)
  | e :: es, ρ, acc => bnd2 (evE e ρ) fun p ρ1 => bnd1 (getQ ρ1 p) fun d => bnd1 (fmtD d) fun x => req (decide (acc.length + x.length ≤ big)) (evFs es ρ1 (acc ++ x))
/-- a part of a slice -/
def evO : E → Ro → Option (Option Int × Ro)
  | .nil, ρ => some (none, ρ)
  | .seq e, ρ => bnd2 (evE e ρ) fun p ρ1 => bnd1 (getQ ρ1 p) fun d => bnd1 (intD d) fun i => some (some i, ρ1)
  | _, _ => none
/-- what is walked -/
def evI : E → Ro → Option (List D × Ro)
  | .seq e, ρ => bnd2 (evE e ρ) fun p ρ1 => walkP ρ1 p
  | .rng1 a, ρ => bnd2 (evE a ρ) fun p ρ1 => bnd1 (getQ ρ1 p) fun d => bnd1 (intD d) fun n => req (isSm n) (some (rangeD 0 n, ρ1))
  | .rng2 a b, ρ => bnd2 (evE a ρ) fun p ρ1 => bnd2 (evE b ρ1) fun q ρ2 => bnd1 (getQ ρ2 p) fun x => bnd1 (intD x) fun m => bnd1 (getQ ρ2 q) fun y => bnd1 (intD y) fun n => req (isSm m && isSm n) (some (rangeD m n, ρ2))
  | .zip a b, ρ => bnd2 (evE a ρ) fun p ρ1 => bnd2 (evE b ρ1) fun q ρ2 => bnd2 (toVal ρ2 p) fun x ρ3 => bnd2 (toVal ρ3 q) fun y ρ4 => bnd1 (zip2 x y) fun l => some (l, ρ4)
  | .enum a, ρ => bnd2 (evE a ρ) fun p ρ1 => bnd2 (toVal ρ1 p) fun d ρ2 => bnd1 (seqD d) fun ds => some (enumD 0 ds, ρ2)
  | _, _ => none
end
end

/-! ### statements -/
inductive Out where | nx | ret (w : W) | brk | cont
inductive S where
  | asg (g : G) (e : E) | asgS (i j : Nat) (e : E) | par (i j : Nat) (a b : E) | setix (i : Nat) (ie e : E) | expr (e : E) | app (i : Nat) (e : E) | ext (i : Nat) (e : E)
  | ite (c : E) (t f : List S) | for_ (g : G) (it : E) (b : List S) | while_ (n : Nat) (c : E) (b : List S) | ret (e : E) | retN | pass | never | brk | cont
  | try_ (b : List S)
/-- a value goes to a target; a new list goes as a list of its own -/
def put : G → Pl → Ro → Option Ro
  | .name i, .tmp (.own ds), ρ => some (ρ.set i (some (.own ds)))
  | g, p, ρ => bnd2 (toVal ρ p) fun d ρ1 => asg g d ρ1
/-- what a return hands over -/
def give (ρ : Ro) : Pl → Option (W × Ro)
  | .tmp (.bor _) => none
  | .tmp w => some (w, ρ)
  | .slot i => match (ρ[i]?).join with
    | some (.val d) => some (.val d, ρ)
    | some (.own ds) => some (.own ds, ρ.set i none)
    | _ => none
def forL (g : G) (body : Ro → Option (Out × Ro)) : List D → Ro → Option (Out × Ro)
  | [], ρ => some (.nx, ρ)
  | d :: ds, ρ => bnd1 (asg g d ρ) fun ρ1 => bnd2 (body ρ1) fun o ρ2 => match o with
    | .nx => forL g body ds ρ2
    | .cont => forL g body ds ρ2
    | .brk => some (.nx, ρ2)
    | .ret w => some (.ret w, ρ2)
def whileL (c : Ro → Option (Bool × Ro)) (body : Ro → Option (Out × Ro)) : Nat → Ro → Option (Out × Ro)
  | 0, _ => none
  | n + 1, ρ => bnd2 (c ρ) fun b ρ1 => match b with
    | true => bnd2 (body ρ1) fun o ρ2 => match o with
      | .nx => whileL c body n ρ2
      | .cont => whileL c body n ρ2
      | .brk => some (.nx, ρ2)
      | .ret w => some (.ret w, ρ2)
    | false => some (.nx, ρ1)
section
variable (Γ : Nat → Option Fn) (gl : Str → Option D)
mutual
def evS : S → Ro → Option (Out × Ro)
  | .asg g e, ρ => bnd2 (evE Γ gl e ρ) fun p ρ1 => bnd1 (put g p ρ1) fun ρ2 => some (.nx, ρ2)
  | .asgS i j e, ρ => bnd2 (evE Γ gl e ρ) fun p ρ1 => bnd1 (getQ ρ1 p) fun d => bnd1 (lstD d) fun l => req (decide (l.length ≤ 10000)) (match l with
    | x :: r => some (.nx, (ρ1.set i (some (.val x))).set j (some (.own r)))
    | [] => none)
  | .par i j a b, ρ => bnd2 (evE Γ gl a ρ) fun p ρ1 => bnd2 (evE Γ gl b ρ1) fun q ρ2 => bnd2 (give ρ2 p) fun v ρ3 => bnd2 (give ρ3 q) fun w ρ4 => some (.nx, (ρ4.set i (some v)).set j (some w))
  | .setix i ie e, ρ => bnd1 ((ρ[i]?).join) fun w0 => bnd1 (ownW w0) fun _ => bnd2 (evE Γ gl e ρ) fun p ρ1 => bnd2 (toVal ρ1 p) fun d ρ2 => bnd2 (evE Γ gl ie ρ2) fun q ρ3 => bnd1 (getQ ρ3 q) fun x => bnd1 (intD x) fun k => bnd1 ((ρ3[i]?).join) fun w => bnd1 (ownW w) fun ds =>
      req (decide (0 ≤ k) && decide (k.toNat < ds.length)) (some (.nx, ρ3.set i (some (.own (ds.set k.toNat d)))))
  | .expr e, ρ => bnd2 (evE Γ gl e ρ) fun _ ρ1 => some (.nx, ρ1)
  | .app i e, ρ => bnd1 ((ρ[i]?).join) fun w0 => bnd1 (ownW w0) fun _ => bnd2 (evE Γ gl e ρ) fun p ρ1 => bnd2 (toVal ρ1 p) fun d ρ2 => bnd1 ((ρ2[i]?).join) fun w => bnd1 (ownW w) fun ds => req (decide (ds.length < big)) (some (.nx, ρ2.set i (some (.own (ds ++ [d])))))
  | .ext i e, ρ => bnd1 ((ρ[i]?).join) fun w0 => bnd1 (ownW w0) fun _ => bnd2 (evE Γ gl e ρ) fun p ρ1 => bnd1 (getC ρ1 p) fun x => bnd1 (lstD x) fun es => bnd1 ((ρ1[i]?).join) fun w => bnd1 (ownW w) fun ds => req (decide (ds.length + es.length ≤ big)) (some (.nx, ρ1.set i (some (.own (ds ++ es)))))
  | .ite c t f, ρ => bnd2 (tstOf (evE Γ gl c ρ)) fun k ρ1 => match k with
    | true => evSs t ρ1
    | false => evSs f ρ1
  | .for_ g it b, ρ => bnd2 (evI Γ gl it ρ) fun ds ρ1 => forL g (fun ρ => evSs b ρ) ds ρ1
  | .while_ n c b, ρ => whileL (fun ρ => tstOf (evE Γ gl c ρ)) (fun ρ => evSs b ρ) n ρ
  | .ret e, ρ => bnd2 (evE Γ gl e ρ) fun p ρ1 => bnd2 (give ρ1 p) fun w ρ2 => some (.ret w, ρ2)
  | .retN, ρ => some (.ret (.val .non), ρ)
  | .pass, ρ => some (.nx, ρ)
  | .never, _ => none
  | .brk, ρ => some (.brk, ρ)
  | .cont, ρ => some (.cont, ρ)
  | .try_ b, ρ => evSs b ρ
def evSs : List S → Ro → Option (Out × Ro)
  | [], ρ => some (.nx, ρ)
  | s :: r, ρ => bnd2 (evS s ρ) fun o ρ1 => match o with
    | .nx => evSs r ρ1
    | o => some (o, ρ1)
end
/-- the slots at a def's entry -/
def args0 : List Mode → List D → Option Ro
  | [], [] => some []
  | .val :: ms, d :: ds => (args0 ms ds).map (some (.val d) :: ·)
  | .own :: ms, .lst l :: ds => (args0 ms ds).map (some (.own l) :: ·)
  | .bor :: ms, .lst l :: ds => (args0 ms ds).map (some (.bor l) :: ·)
  | _, _ => none
/-- the lists that were to be changed, as they are at its end -/
def outs0 : List Mode → Ro → Option (List (List D))
  | [], _ => some []
  | .own :: ms, some (.own l) :: ρ => (outs0 ms ρ).map (l :: ·)
  | .own :: _, _ => none
  | _ :: ms, _ :: ρ => outs0 ms ρ
  | _, _ => none
def outW : Out → Option W
  | .nx => some (.val .non)
  | .ret w => some w
  | _ => none
/-- a def: n slots in all -/
def runFn (ms : List Mode) (n : Nat) (body : List S) (ds : List D) : Option (W × List (List D)) :=
  bnd1 (args0 ms ds) fun ρ0 => bnd2 (evSs Γ gl body (ρ0 ++ List.replicate (n - ms.length) none)) fun o ρ => bnd1 (outW o) fun w => bnd1 (outs0 ms ρ) fun l => some (w, l)
end
end DT

end
section
/-! DT: how the values lie in the abstract heap. -/
namespace DT
open PySem L2

/-- the classes: where they stand, their fields in the order in which __init__ stores them -/
structure Cs where
  ad : Str → Option Addr
  fl : Str → List Str

section
variable (κ : Cs)
mutual
/-- v is d, by the objects F that nobody changes -/
def Rep (F : Hp) : D → V → Prop
  | .non, v => v = .non
  | .bl b, v => v = .bl b
  | .int i, v => v = .int i
  | .str x, v => v = .str x
  | .tup ds, v => ∃ a o vs, v = .ref a ∧ o.dict = none ∧ F a = some (tf o vs) ∧ RepL F ds vs
  | .lst ds, v => ∃ a vs, v = .ref a ∧ F a = some (.lst vs) ∧ RepL F ds vs
  | .ins c ds, v => ∃ a C dx vs, v = .ref a ∧ κ.ad c = some C ∧ F a = some (.ins C dx ((κ.fl c).zip vs)) ∧ RepL F ds vs
  | .cls c, v => ∃ C, v = .ref C ∧ κ.ad c = some C
  | .dic ks ds, v => ∃ a kvs, v = .ref a ∧ F a = some (.dK kvs) ∧ kvs.map (·.1) = ks.map Sum.inl ∧ RepL F ds (kvs.map (·.2))
def RepL (F : Hp) : List D → List V → Prop
  | [], vs => vs = []
  | d :: ds, vs => ∃ v r, vs = v :: r ∧ Rep F d v ∧ RepL F ds r
end
end

section
variable {κ : Cs} {F F' H H' : Hp}
mutual
theorem Rep.mono (e : ∀ a o, F a = some o → F' a = some o) : ∀ (d : D) (v : V), Rep κ F d v → Rep κ F' d v
  | .non, v, h => by unfold Rep at *; exact h
  | .bl b, v, h => by unfold Rep at *; exact h
  | .int i, v, h => by unfold Rep at *; exact h
  | .str x, v, h => by unfold Rep at *; exact h
  | .tup ds, v, h => by
    unfold Rep at *
    obtain ⟨a, o, vs, h1, h0, h2, h3⟩ := h
    exact ⟨a, o, vs, h1, h0, e a _ h2, RepL.mono e ds vs h3⟩
  | .cls _, v, h => by unfold Rep at *; exact h
  | .dic ks ds, v, h => by
    unfold Rep at *
    obtain ⟨a, kvs, h1, h2, h0, h3⟩ := h
    exact ⟨a, kvs, h1, e a _ h2, h0, RepL.mono e ds _ h3⟩
  | .lst ds, v, h => by
    unfold Rep at *
    obtain ⟨a, vs, h1, h2, h3⟩ := h
    exact ⟨a, vs, h1, e a _ h2, RepL.mono e ds vs h3⟩
  | .ins c ds, v, h => by
    unfold Rep at *
    obtain ⟨a, C, dx, vs, h1, h0, h2, h3⟩ := h
    exact ⟨a, C, dx, vs, h1, h0, e a _ h2, RepL.mono e ds vs h3⟩
theorem RepL.mono (e : ∀ a o, F a = some o → F' a = some o) : ∀ (ds : List D) (vs : List V), RepL κ F ds vs → RepL κ F' ds vs
  | [], vs, h => by unfold RepL at *; exact h
  | d :: ds, vs, h => by
    unfold RepL at *
    obtain ⟨v, r, h1, h2, h3⟩ := h
    exact ⟨v, r, h1, Rep.mono e d v h2, RepL.mono e ds r h3⟩
end
theorem repL_nil {vs : List V} : RepL κ F [] vs ↔ vs = [] := by unfold RepL; exact Iff.rfl
theorem repL_cons {d : D} {ds : List D} {vs : List V} : RepL κ F (d :: ds) vs ↔ ∃ v r, vs = v :: r ∧ Rep κ F d v ∧ RepL κ F ds r := by
  constructor
  · intro h; unfold RepL at h; exact h
  · intro h; unfold RepL; exact h
theorem repL_cc {d : D} {ds : List D} {v : V} {vs : List V} : RepL κ F (d :: ds) (v :: vs) ↔ Rep κ F d v ∧ RepL κ F ds vs := by
  rw [repL_cons]
  constructor
  · rintro ⟨w, r, e, h1, h2⟩
    cases e
    exact ⟨h1, h2⟩
  · rintro ⟨h1, h2⟩
    exact ⟨v, vs, rfl, h1, h2⟩
theorem RepL.length : ∀ {ds : List D} {vs : List V}, RepL κ F ds vs → ds.length = vs.length
  | [], vs, h => by rw [repL_nil] at h; subst h; rfl
  | d :: ds, vs, h => by
    rw [repL_cons] at h
    obtain ⟨v, r, rfl, _, h⟩ := h
    simp [RepL.length h]
theorem RepL.append : ∀ {ds es : List D} {vs ws : List V}, RepL κ F ds vs → RepL κ F es ws → RepL κ F (ds ++ es) (vs ++ ws)
  | [], es, vs, ws, h, k => by rw [repL_nil] at h; subst h; exact k
  | d :: ds, es, vs, ws, h, k => by
    rw [repL_cons] at h
    obtain ⟨v, r, rfl, h1, h⟩ := h
    exact repL_cc.mpr ⟨h1, RepL.append h k⟩
theorem RepL.get : ∀ {ds : List D} {vs : List V} {i : Nat} {d : D}, RepL κ F ds vs → ds[i]? = some d → ∃ v, vs[i]? = some v ∧ Rep κ F d v
  | [], vs, i, d, h, e => by simp at e
  | x :: ds, vs, 0, d, h, e => by
    rw [repL_cons] at h
    obtain ⟨v, r, rfl, h1, h⟩ := h
    simp at e
    subst e
    exact ⟨v, rfl, h1⟩
  | x :: ds, vs, i + 1, d, h, e => by
    rw [repL_cons] at h
    obtain ⟨v, r, rfl, h1, h⟩ := h
    simp at e
    obtain ⟨w, h2, h3⟩ := RepL.get h e
    exact ⟨w, by simpa using h2, h3⟩
theorem RepL.getV : ∀ {ds : List D} {vs : List V} {i : Nat} {v : V}, RepL κ F ds vs → vs[i]? = some v → ∃ d, ds[i]? = some d ∧ Rep κ F d v
  | [], vs, i, d, h, e => by rw [repL_nil] at h; subst h; simp at e
  | x :: ds, vs, 0, d, h, e => by
    rw [repL_cons] at h
    obtain ⟨v, r, rfl, h1, h⟩ := h
    simp at e
    subst e
    exact ⟨x, rfl, h1⟩
  | x :: ds, vs, i + 1, d, h, e => by
    rw [repL_cons] at h
    obtain ⟨v, r, rfl, h1, h⟩ := h
    simp at e
    obtain ⟨w, h2, h3⟩ := RepL.getV h e
    exact ⟨w, by simpa using h2, h3⟩
theorem RepL.take : ∀ {ds : List D} {vs : List V} (n : Nat), RepL κ F ds vs → RepL κ F (ds.take n) (vs.take n)
  | [], vs, n, h => by rw [repL_nil] at h; subst h; simp [repL_nil]
  | x :: ds, vs, 0, h => by simp [repL_nil]
  | x :: ds, vs, n + 1, h => by
    rw [repL_cons] at h
    obtain ⟨v, r, rfl, h1, h⟩ := h
    simp only [List.take_succ_cons]
    exact repL_cc.mpr ⟨h1, RepL.take n h⟩
theorem RepL.drop : ∀ {ds : List D} {vs : List V} (n : Nat), RepL κ F ds vs → RepL κ F (ds.drop n) (vs.drop n)
  | [], vs, n, h => by rw [repL_nil] at h; subst h; simp [repL_nil]
  | x :: ds, vs, 0, h => by simpa using h
  | x :: ds, vs, n + 1, h => by
    rw [repL_cons] at h
    obtain ⟨v, r, rfl, h1, h⟩ := h
    simp only [List.drop_succ_cons]
    exact RepL.drop n h
theorem RepL.cut {ds : List D} {vs : List V} (lo hi : Option Int) (h : RepL κ F ds vs) : RepL κ F (cutD ds lo hi) (cutV vs lo hi) := by
  unfold cutD cutV
  rw [h.length]
  exact (h.drop _).take _
theorem RepL.set : ∀ {ds : List D} {vs : List V} (i : Nat) {d : D} {v : V}, RepL κ F ds vs → Rep κ F d v → RepL κ F (ds.set i d) (vs.set i v)
  | [], vs, i, d, v, h, k => by rw [repL_nil] at h; subst h; simp [repL_nil]
  | x :: ds, vs, 0, d, v, h, k => by
    rw [repL_cons] at h
    obtain ⟨w, r, rfl, h1, h⟩ := h
    exact repL_cc.mpr ⟨k, h⟩
  | x :: ds, vs, i + 1, d, v, h, k => by
    rw [repL_cons] at h
    obtain ⟨w, r, rfl, h1, h⟩ := h
    exact repL_cc.mpr ⟨h1, RepL.set i h k⟩
theorem RepL.eraseIdx : ∀ {ds : List D} {vs : List V} (i : Nat), RepL κ F ds vs → RepL κ F (ds.eraseIdx i) (vs.eraseIdx i)
  | [], vs, i, h => by rw [repL_nil] at h; subst h; simp [repL_nil]
  | x :: ds, vs, 0, h => by
    rw [repL_cons] at h
    obtain ⟨w, r, rfl, h1, h⟩ := h
    exact h
  | x :: ds, vs, i + 1, h => by
    rw [repL_cons] at h
    obtain ⟨w, r, rfl, h1, h⟩ := h
    exact repL_cc.mpr ⟨h1, RepL.eraseIdx i h⟩
theorem RepL.reverse : ∀ {ds : List D} {vs : List V}, RepL κ F ds vs → RepL κ F ds.reverse vs.reverse
  | [], vs, h => by rw [repL_nil] at h; subst h; simp [repL_nil]
  | x :: ds, vs, h => by
    rw [repL_cons] at h
    obtain ⟨w, r, rfl, h1, h⟩ := h
    rw [List.reverse_cons, List.reverse_cons]
    exact h.reverse.append (repL_cc.mpr ⟨h1, repL_nil.mpr rfl⟩)
theorem RepL.rep {ds : List D} {vs : List V} (h : RepL κ F ds vs) : ∀ k : Nat, RepL κ F (List.replicate k ds).flatten (List.replicate k vs).flatten
  | 0 => repL_nil.mpr rfl
  | k + 1 => by
    rw [List.replicate_succ, List.replicate_succ, List.flatten_cons, List.flatten_cons]
    exact h.append (RepL.rep h k)
/-- scalars -/
theorem repL_ints : ∀ {ds : List D} {vs : List V} {ns : List Int}, intsD ds = some ns → RepL κ F ds vs → vs = ns.map V.int
  | [], vs, ns, e, h => by rw [repL_nil] at h; cases e; exact h
  | .int i :: ds, vs, ns, e, h => by
    unfold intsD at e
    cases q : intsD ds with
    | none => rw [q] at e; cases e
    | some l =>
      rw [q] at e
      cases e
      rw [repL_cons] at h
      obtain ⟨w, r, rfl, h1, h⟩ := h
      unfold Rep at h1
      rw [h1, repL_ints q h]
      rfl
  | .non :: _, _, _, e, _ => by simp [intsD] at e
  | .bl _ :: _, _, _, e, _ => by simp [intsD] at e
  | .str _ :: _, _, _, e, _ => by simp [intsD] at e
  | .tup _ :: _, _, _, e, _ => by simp [intsD] at e
  | .lst _ :: _, _, _, e, _ => by simp [intsD] at e
  | .ins _ _ :: _, _, _, e, _ => by simp [intsD] at e
  | .cls _ :: _, _, _, e, _ => by simp [intsD] at e
  | .dic _ _ :: _, _, _, e, _ => by simp [intsD] at e
theorem repL_bools : ∀ {ds : List D} {vs : List V} {ns : List Bool}, boolsD ds = some ns → RepL κ F ds vs → vs = ns.map V.bl
  | [], vs, ns, e, h => by rw [repL_nil] at h; cases e; exact h
  | .bl i :: ds, vs, ns, e, h => by
    unfold boolsD at e
    cases q : boolsD ds with
    | none => rw [q] at e; cases e
    | some l =>
      rw [q] at e
      cases e
      rw [repL_cons] at h
      obtain ⟨w, r, rfl, h1, h⟩ := h
      unfold Rep at h1
      rw [h1, repL_bools q h]
      rfl
  | .non :: _, _, _, e, _ => by simp [boolsD] at e
  | .int _ :: _, _, _, e, _ => by simp [boolsD] at e
  | .str _ :: _, _, _, e, _ => by simp [boolsD] at e
  | .tup _ :: _, _, _, e, _ => by simp [boolsD] at e
  | .lst _ :: _, _, _, e, _ => by simp [boolsD] at e
  | .ins _ _ :: _, _, _, e, _ => by simp [boolsD] at e
  | .cls _ :: _, _, _, e, _ => by simp [boolsD] at e
  | .dic _ _ :: _, _, _, e, _ => by simp [boolsD] at e
theorem repL_strs : ∀ {ds : List D} {vs : List V} {ns : List Str}, strsD ds = some ns → RepL κ F ds vs → vs = ns.map V.str
  | [], vs, ns, e, h => by rw [repL_nil] at h; cases e; exact h
  | .str i :: ds, vs, ns, e, h => by
    unfold strsD at e
    cases q : strsD ds with
    | none => rw [q] at e; cases e
    | some l =>
      rw [q] at e
      cases e
      rw [repL_cons] at h
      obtain ⟨w, r, rfl, h1, h⟩ := h
      unfold Rep at h1
      rw [h1, repL_strs q h]
      rfl
  | .non :: _, _, _, e, _ => by simp [strsD] at e
  | .int _ :: _, _, _, e, _ => by simp [strsD] at e
  | .bl _ :: _, _, _, e, _ => by simp [strsD] at e
  | .tup _ :: _, _, _, e, _ => by simp [strsD] at e
  | .lst _ :: _, _, _, e, _ => by simp [strsD] at e
  | .ins _ _ :: _, _, _, e, _ => by simp [strsD] at e
  | .cls _ :: _, _, _, e, _ => by simp [strsD] at e
  | .dic _ _ :: _, _, _, e, _ => by simp [strsD] at e
end

/-- d is to be read at v: its own list may be any list -/
def RepQ (κ : Cs) (K : PySem.W.Frag) (F H : Hp) (d : D) (v : V) : Prop := match d with
  | .lst ds => ∃ a vs, v = .ref a ∧ SqL K H a vs ∧ RepL κ F ds vs
  | d => Rep κ F d v
/-- .. a list that stands by itself -/
def RepC (κ : Cs) (F H : Hp) (d : D) (v : V) : Prop := match d with
  | .lst ds => ∃ a vs, v = .ref a ∧ H a = some (.lst vs) ∧ RepL κ F ds vs
  | d => Rep κ F d v

/-- a slot -/
def RepS (κ : Cs) (K : PySem.W.Frag) (F H : Hp) : W → V → Prop
  | .val d, v => Rep κ F d v
  | .own ds, v => ∃ a vs, v = .ref a ∧ H a = some (.lst vs) ∧ F a = none ∧ RepL κ F ds vs
  | .bor ds, v => ∃ a vs, v = .ref a ∧ SqL K H a vs ∧ RepL κ F ds vs
/-- a list of the module's own -/
def KLst (κ : Cs) (K : PySem.W.Frag) (F : Hp) (a : Addr) (ds : List D) : Prop := ∃ vs, (∃ (o : Obj) (its : Array Value) (n : Nat), K.lookup a = some o ∧ o.cls = .type "list" ∧ o.dict = none ∧ o.data = .seq its n ∧ its.size ≤ sizeLine ∧ Vals vs its.toList) ∧ RepL κ F ds vs
/-- the lists that are the slots' own -/
def Own (ρ : Ro) (σ : L2.St) (a : Addr) : Prop := ∃ (i : Nat) (ds : List D), ρ[i]? = some (some (W.own ds)) ∧ σ[i]? = some (some (V.ref a))
structure Rel (κ : Cs) (K : PySem.W.Frag) (F : Hp) (ρ : Ro) (σ : L2.St) (H : Hp) : Prop where
  le : ∀ a o, F a = some o → H a = some o
  len : ρ.length = σ.length
  slot : ∀ (i : Nat) (w : W), ρ[i]? = some (some w) → ∃ v, σ[i]? = some (some v) ∧ RepS κ K F H w v
  uno : ∀ (i j : Nat) (ds es : List D) (a : Addr), ρ[i]? = some (some (W.own ds)) → ρ[j]? = some (some (W.own es)) → σ[i]? = some (some (V.ref a)) → σ[j]? = some (some (V.ref a)) → i = j
  apart : ∀ (j : Nat) (ds : List D) (a : Addr), ρ[j]? = some (some (W.bor ds)) → σ[j]? = some (some (V.ref a)) → Own ρ σ a → KLst κ K F a ds
/-- from one state to a later one -/
structure Step (κ : Cs) (K : PySem.W.Frag) (F : Hp) (ρ : Ro) (σ : L2.St) (H : Hp) (F' : Hp) (ρ' : Ro) (σ' : L2.St) (H' : Hp) : Prop where
  rel : Rel κ K F' ρ' σ' H'
  ex : ∀ a o, F a = some o → F' a = some o
  new : ∀ a o, F' a = some o → F a = some o ∨ H a = none ∨ Own ρ σ a
  keep : ∀ a o, H a = some o → ¬ Own ρ σ a → H' a = some o
  dom : ∀ a, H a ≠ none → H' a ≠ none
  own : ∀ a, Own ρ' σ' a → Own ρ σ a ∨ H a = none
  bor : ∀ (j : Nat) (ds : List D), ρ'[j]? = some (some (W.bor ds)) → ρ[j]? = some (some (W.bor ds)) ∧ σ'[j]? = σ[j]?
/-- an operand, made since the heap was H0 -/
def RepP (κ : Cs) (F : Hp) (ρ : Ro) (σ : L2.St) (H0 H : Hp) : Pl → V → Prop
  | .slot i, v => σ[i]? = some (some v)
  | .tmp (.val d), v => Rep κ F d v
  | .tmp (.own ds), v => ∃ a vs, v = .ref a ∧ H0 a = none ∧ H a = some (.lst vs) ∧ F a = none ∧ ¬ Own ρ σ a ∧ RepL κ F ds vs
  | .tmp (.bor _), _ => False

section
variable {κ : Cs} {K : PySem.W.Frag} {F F1 F2 H H0 H1 H2 : Hp} {ρ ρ1 ρ2 : Ro} {σ σ1 σ2 : L2.St}
theorem KLst.mono (e : ∀ a o, F a = some o → F1 a = some o) {a : Addr} {ds : List D} (h : KLst κ K F a ds) : KLst κ K F1 a ds := let ⟨vs, h1, h2⟩ := h; ⟨vs, h1, RepL.mono e _ _ h2⟩
theorem KLst.sq {a : Addr} {ds : List D} (h : KLst κ K F a ds) : ∃ vs, SqL K H a vs ∧ RepL κ F ds vs := let ⟨vs, h1, h2⟩ := h; ⟨vs, .inr h1, h2⟩
theorem Step.refl (r : Rel κ K F ρ σ H) : Step κ K F ρ σ H F ρ σ H := ⟨r, fun _ _ h => h, fun _ _ h => .inl h, fun _ _ h _ => h, fun _ h => h, fun _ h => .inl h, fun _ _ h => ⟨h, rfl⟩⟩
theorem Step.trans (a : Step κ K F ρ σ H F1 ρ1 σ1 H1) (b : Step κ K F1 ρ1 σ1 H1 F2 ρ2 σ2 H2) : Step κ K F ρ σ H F2 ρ2 σ2 H2 where
  rel := b.rel
  ex := fun x o h => b.ex x o (a.ex x o h)
  new := fun x o h => by
    have lift : H1 x = none → H x = none := fun h => by
      cases e : H x with
      | none => rfl
      | some o => exact absurd h (a.dom x (by rw [e]; intro z; cases z))
    rcases b.new x o h with h | h | h
    · exact a.new x o h
    · exact .inr (.inl (lift h))
    · rcases a.own x h with h | h
      · exact .inr (.inr h)
      · exact .inr (.inl h)
  keep := fun x o h n => b.keep x o (a.keep x o h n) fun z => by
    rcases a.own x z with z | z
    · exact n z
    · rw [h] at z; cases z
  dom := fun x h => b.dom x (a.dom x h)
  own := fun x h => by
    rcases b.own x h with h | h
    · exact a.own x h
    · cases e : H x with
      | none => exact .inr rfl
      | some o => exact absurd h (a.dom x (by rw [e]; intro z; cases z))
  bor := fun j ds h => by
    obtain ⟨h1, h2⟩ := b.bor j ds h
    obtain ⟨h3, h4⟩ := a.bor j ds h1
    exact ⟨h3, h2.trans h4⟩
theorem Step.none_back (a : Step κ K F ρ σ H F1 ρ1 σ1 H1) {x : Addr} (h : H1 x = none) : H x = none := by
  cases e : H x with
  | none => rfl
  | some o => exact absurd h (a.dom x (by rw [e]; intro z; cases z))
theorem Rel.own_at (r : Rel κ K F ρ σ H) {a : Addr} (h : Own ρ σ a) : ∃ vs, H a = some (.lst vs) ∧ F a = none := by
  obtain ⟨i, ds, h1, h2⟩ := h
  obtain ⟨v, h3, h4⟩ := r.slot i _ h1
  rw [h2] at h3
  cases h3
  obtain ⟨b, vs, e, h5, h6, _⟩ := h4
  cases e
  exact ⟨vs, h5, h6⟩
/-- operands are kept -/
theorem RepP.step (s : Step κ K F ρ σ H F1 ρ1 σ H1) : ∀ {p : Pl} {v : V}, RepP κ F ρ σ H0 H p v → RepP κ F1 ρ1 σ H0 H1 p v
  | .slot i, v, h => h
  | .tmp (.val d), v, h => Rep.mono s.ex d v h
  | .tmp (.own ds), v, h => by
    obtain ⟨a, vs, h1, h2, h3, h4, h5, h6⟩ := h
    refine ⟨a, vs, h1, h2, s.keep a _ h3 h5, ?_, fun z => ?_, RepL.mono s.ex _ _ h6⟩
    · cases e : F1 a with
      | none => rfl
      | some o =>
        rcases s.new a o e with z | z | z
        · rw [h4] at z; cases z
        · rw [h3] at z; cases z
        · exact absurd z h5
    · rcases s.own a z with z | z
      · exact h5 z
      · rw [h3] at z; cases z
  | .tmp (.bor _), v, h => h
/-- made since an earlier heap -/
theorem RepP.since (hn : ∀ a, H0 a = none → H a = none) : ∀ {p : Pl} {v : V}, RepP κ F1 ρ1 σ H0 H1 p v → RepP κ F1 ρ1 σ H0 H1 p v := fun h => h
theorem RepP.early (hn : ∀ a, H a = none → H0 a = none) : ∀ {p : Pl} {v : V}, RepP κ F1 ρ1 σ H H1 p v → RepP κ F1 ρ1 σ H0 H1 p v
  | .slot i, v, h => h
  | .tmp (.val d), v, h => h
  | .tmp (.own ds), v, h => by
    obtain ⟨a, vs, h1, h2, h3, h4, h5, h6⟩ := h
    exact ⟨a, vs, h1, hn a h2, h3, h4, h5, h6⟩
  | .tmp (.bor _), v, h => h
theorem repQ_of {d : D} {v : V} (r : ∀ a o, F a = some o → H a = some o) (h : Rep κ F d v) : RepQ κ K F H d v := by
  cases d with
  | lst ds =>
    unfold Rep at h
    obtain ⟨a, vs, h1, h2, h3⟩ := h
    exact ⟨a, vs, h1, SqL.of (r a _ h2), h3⟩
  | _ => exact h
theorem repC_of {d : D} {v : V} (r : ∀ a o, F a = some o → H a = some o) (h : Rep κ F d v) : RepC κ F H d v := by
  cases d with
  | lst ds =>
    unfold Rep at h
    obtain ⟨a, vs, h1, h2, h3⟩ := h
    exact ⟨a, vs, h1, r a _ h2, h3⟩
  | _ => exact h
theorem RepC.toQ {d : D} {v : V} (h : RepC κ F H d v) : RepQ κ K F H d v := by
  cases d with
  | lst ds =>
    obtain ⟨a, vs, h1, h2, h3⟩ := h
    exact ⟨a, vs, h1, SqL.of h2, h3⟩
  | _ => exact h
theorem slot_get {ρ : Ro} {i : Nat} {w : W} (h : (ρ[i]?).join = some w) : ρ[i]? = some (some w) := by
  cases e : ρ[i]? with
  | none => rw [e] at h; cases h
  | some o =>
    rw [e] at h
    have h : o = some w := h
    rw [h]
/-- what an operand is, to be read -/
theorem getQ_rep (r : Rel κ K F ρ σ H) {p : Pl} {v : V} {d : D} (h : RepP κ F ρ σ H0 H p v) (e : getQ ρ p = some d) : RepQ κ K F H d v := by
  have key : ∀ w, RepS κ K F H w v → RepQ κ K F H (contQ w) v := fun w hw => by
    cases w with
    | val d => exact repQ_of r.le hw
    | own ds =>
      obtain ⟨a, vs, h1, h2, h3, h4⟩ := hw
      exact ⟨a, vs, h1, SqL.of h2, h4⟩
    | bor ds => exact hw
  cases p with
  | slot i =>
    have e : ((ρ[i]?).join).map contQ = some d := e
    cases q : (ρ[i]?).join with
    | none => rw [q] at e; cases e
    | some w =>
      rw [q] at e
      cases e
      obtain ⟨v', h1, h2⟩ := r.slot i w (slot_get q)
      have h : σ[i]? = some (some v) := h
      rw [h] at h1
      cases h1
      exact key w h2
  | tmp w =>
    cases e
    cases w with
    | val d => exact repQ_of r.le h
    | own ds =>
      obtain ⟨a, vs, h1, h2, h3, h4, h5, h6⟩ := h
      exact ⟨a, vs, h1, SqL.of h3, h6⟩
    | bor ds => exact False.elim h
theorem getC_rep (r : Rel κ K F ρ σ H) {p : Pl} {v : V} {d : D} (h : RepP κ F ρ σ H0 H p v) (e : getC ρ p = some d) : RepC κ F H d v := by
  have key : ∀ w d, RepS κ K F H w v → cont w = some d → RepC κ F H d v := fun w d hw he => by
    cases w with
    | val d => cases he; exact repC_of r.le hw
    | own ds =>
      cases he
      obtain ⟨a, vs, h1, h2, h3, h4⟩ := hw
      exact ⟨a, vs, h1, h2, h4⟩
    | bor ds => cases he
  cases p with
  | slot i =>
    have e : ((ρ[i]?).join).bind cont = some d := e
    cases q : (ρ[i]?).join with
    | none => rw [q] at e; cases e
    | some w =>
      rw [q] at e
      obtain ⟨v', h1, h2⟩ := r.slot i w (slot_get q)
      have h : σ[i]? = some (some v) := h
      rw [h] at h1
      cases h1
      exact key w d h2 e
  | tmp w =>
    have e : cont w = some d := e
    cases w with
    | val d => cases e; exact repC_of r.le h
    | own ds =>
      cases e
      obtain ⟨a, vs, h1, h2, h3, h4, h5, h6⟩ := h
      exact ⟨a, vs, h1, h3, h6⟩
    | bor ds => exact False.elim h

/-- an operand that may have been given away already -/
def RepPw (κ : Cs) (F : Hp) (ρ : Ro) (σ : L2.St) (H0 H : Hp) : Pl → V → Prop
  | .slot i, v => σ[i]? = some (some v)
  | .tmp (.val d), v => Rep κ F d v
  | .tmp (.own ds), v => ∃ a vs, v = .ref a ∧ H0 a = none ∧ H a = some (.lst vs) ∧ (F a = none ∨ F a = some (.lst vs)) ∧ ¬ Own ρ σ a ∧ RepL κ F ds vs
  | .tmp (.bor _), _ => False
theorem RepP.weak : ∀ {p : Pl} {v : V}, RepP κ F ρ σ H0 H p v → RepPw κ F ρ σ H0 H p v
  | .slot i, v, h => h
  | .tmp (.val d), v, h => h
  | .tmp (.own ds), v, h => by
    obtain ⟨a, vs, h1, h2, h3, h4, h5, h6⟩ := h
    exact ⟨a, vs, h1, h2, h3, .inl h4, h5, h6⟩
  | .tmp (.bor _), v, h => h
theorem RepPw.early (hn : ∀ a, H a = none → H0 a = none) : ∀ {p : Pl} {v : V}, RepPw κ F1 ρ1 σ H H1 p v → RepPw κ F1 ρ1 σ H0 H1 p v
  | .slot i, v, h => h
  | .tmp (.val d), v, h => h
  | .tmp (.own ds), v, h => by
    obtain ⟨a, vs, h1, h2, h3, h4, h5, h6⟩ := h
    exact ⟨a, vs, h1, hn a h2, h3, h4, h5, h6⟩
  | .tmp (.bor _), v, h => h
theorem RepPw.step (s : Step κ K F ρ σ H F1 ρ1 σ H1) : ∀ {p : Pl} {v : V}, RepPw κ F ρ σ H0 H p v → RepPw κ F1 ρ1 σ H0 H1 p v
  | .slot i, v, h => h
  | .tmp (.val d), v, h => Rep.mono s.ex d v h
  | .tmp (.own ds), v, h => by
    obtain ⟨a, vs, h1, h2, h3, h4, h5, h6⟩ := h
    refine ⟨a, vs, h1, h2, s.keep a _ h3 h5, ?_, fun z => ?_, RepL.mono s.ex _ _ h6⟩
    · rcases h4 with h4 | h4
      · refine .inl ?_
        cases e : F1 a with
        | none => rfl
        | some o =>
          rcases s.new a o e with z | z | z
          · rw [h4] at z; cases z
          · rw [h3] at z; cases z
          · exact absurd z h5
      · exact .inr (s.ex a _ h4)
    · rcases s.own a z with z | z
      · exact h5 z
      · rw [h3] at z; cases z
  | .tmp (.bor _), v, h => h
theorem getQ_repw (r : Rel κ K F ρ σ H) {p : Pl} {v : V} {d : D} (h : RepPw κ F ρ σ H0 H p v) (e : getQ ρ p = some d) : RepQ κ K F H d v := by
  cases p with
  | slot i => exact getQ_rep (H0 := H0) r (p := .slot i) h e
  | tmp w =>
    cases w with
    | val d' => exact getQ_rep (H0 := H0) r (p := .tmp (.val d')) h e
    | own ds =>
      cases e
      obtain ⟨a, vs, h1, h2, h3, h4, h5, h6⟩ := h
      exact ⟨a, vs, h1, SqL.of h3, h6⟩
    | bor ds => exact False.elim h

theorem own_set_val {i : Nat} {w : W} (hw : ∀ ds, w ≠ .own ds) {a : Addr} (h : Own (ρ.set i (some w)) σ a) : Own ρ σ a := by
  obtain ⟨j, ds, h1, h2⟩ := h
  by_cases e : i = j
  · subst e
    rw [List.getElem?_set] at h1
    simp only [if_true] at h1
    split at h1
    · cases h1; exact absurd rfl (hw ds)
    · cases h1
  · rw [List.getElem?_set_ne e] at h1
    exact ⟨j, ds, h1, h2⟩
theorem bor_set {i j : Nat} {w : W} {xs : List D} (hw : ∀ ds, w ≠ .bor ds) (h : (ρ.set i (some w))[j]? = some (some (.bor xs))) : ρ[j]? = some (some (.bor xs)) := by
  by_cases e : i = j
  · subst e
    rw [List.getElem?_set] at h
    simp only [if_true] at h
    split at h
    · cases h; exact absurd rfl (hw xs)
    · cases h
  · rw [List.getElem?_set_ne e] at h
    exact h
theorem own_set_same {i : Nat} {ds es : List D} (h0 : ρ[i]? = some (some (.own ds))) {a : Addr} : Own (ρ.set i (some (.own es))) σ a ↔ Own ρ σ a := by
  have hi : i < ρ.length := by
    rcases Nat.lt_or_ge i ρ.length with h | h
    · exact h
    · rw [List.getElem?_eq_none h] at h0; cases h0
  constructor
  · rintro ⟨j, xs, h1, h2⟩
    by_cases e : i = j
    · subst e; exact ⟨i, ds, h0, h2⟩
    · rw [List.getElem?_set_ne e] at h1; exact ⟨j, xs, h1, h2⟩
  · rintro ⟨j, xs, h1, h2⟩
    by_cases e : i = j
    · subst e; exact ⟨i, es, by rw [List.getElem?_set_self hi], h2⟩
    · exact ⟨j, xs, by rw [List.getElem?_set_ne e]; exact h1, h2⟩
/-- a list is given away: it is nobody's own from here on -/
theorem Rel.freeze (r : Rel κ K F ρ σ H) {a : Addr} {vs : List V} (hH : H a = some (.lst vs)) (hn : ¬ Own ρ σ a) (hF : F a = none ∨ F a = some (.lst vs)) : Rel κ K (upd F a (.lst vs)) ρ σ H where
  le := fun b o h => by
    by_cases e : b = a
    · subst e; rw [upd_same] at h; cases h; exact hH
    · rw [upd_ne e] at h; exact r.le b o h
  len := r.len
  slot := fun i w h => by
    have ex : ∀ b o, F b = some o → upd F a (.lst vs) b = some o := fun b o h => by
      by_cases e : b = a
      · subst e
        rcases hF with z | z
        · rw [z] at h; cases h
        · rw [z] at h; cases h; exact upd_same
      · rw [upd_ne e]; exact h
    obtain ⟨v, h1, h2⟩ := r.slot i w h
    refine ⟨v, h1, ?_⟩
    cases w with
    | val d => exact Rep.mono ex d v h2
    | own ds =>
      obtain ⟨b, us, e, h3, h4, h5⟩ := h2
      subst e
      refine ⟨b, us, rfl, h3, ?_, RepL.mono ex _ _ h5⟩
      rw [upd_ne (fun z => hn (by subst z; exact ⟨i, ds, h, h1⟩))]
      exact h4
    | bor ds =>
      obtain ⟨b, us, e, h3, h5⟩ := h2
      exact ⟨b, us, e, h3, RepL.mono ex _ _ h5⟩
  uno := r.uno
  apart := fun j ds b h1 h2 h3 => (r.apart j ds b h1 h2 h3).mono fun b o h => by
    by_cases e : b = a
    · subst e
      rcases hF with z | z
      · rw [z] at h; cases h
      · rw [z] at h; cases h; exact upd_same
    · rw [upd_ne e]; exact h
theorem ex_freeze {a : Addr} {vs : List V} (hF : F a = none ∨ F a = some (.lst vs)) : ∀ b o, F b = some o → upd F a (.lst vs) b = some o := fun b o h => by
  by_cases e : b = a
  · subst e
    rcases hF with z | z
    · rw [z] at h; cases h
    · rw [z] at h; cases h; exact upd_same
  · rw [upd_ne e]; exact h
/-- a slot's own list is given away -/
theorem Rel.freezeSlot (r : Rel κ K F ρ σ H) {i : Nat} {ds : List D} (h : ρ[i]? = some (some (.own ds))) :
    ∃ a vs, σ[i]? = some (some (.ref a)) ∧ H a = some (.lst vs) ∧ F a = none ∧ RepL κ F ds vs ∧ Rel κ K (upd F a (.lst vs)) (ρ.set i (some (.val (.lst ds)))) σ H := by
  obtain ⟨v, h1, a, vs, e, h2, h3, h4⟩ := r.slot i _ h
  subst e
  have ho : Own ρ σ a := ⟨i, ds, h, h1⟩
  have hi : i < ρ.length := by
    rcases Nat.lt_or_ge i ρ.length with q | q
    · exact q
    · rw [List.getElem?_eq_none q] at h; cases h
  have ex := ex_freeze (F := F) (a := a) (vs := vs) (.inl h3)
  have nown : ∀ b, Own (ρ.set i (some (W.val (.lst ds)))) σ b → b ≠ a := fun b hb z => by
    subst z
    obtain ⟨j, es, q1, q2⟩ := hb
    by_cases e : i = j
    · subst e; rw [List.getElem?_set_self hi] at q1; cases q1
    · rw [List.getElem?_set_ne e] at q1
      exact e (r.uno i j ds es b h q1 h1 q2)
  refine ⟨a, vs, h1, h2, h3, h4, ?_⟩
  refine ⟨fun b o q => ?_, by rw [List.length_set]; exact r.len, fun j w q => ?_, fun j k xs ys b q1 q2 q3 q4 => ?_, fun j xs b q1 q2 q3 => ?_⟩
  · by_cases e : b = a
    · subst e; rw [upd_same] at q; cases q; exact h2
    · rw [upd_ne e] at q; exact r.le b o q
  · by_cases e : i = j
    · subst e
      rw [List.getElem?_set_self hi] at q
      cases q
      refine ⟨.ref a, h1, ?_⟩
      show Rep κ _ _ _
      unfold Rep
      exact ⟨a, vs, rfl, upd_same, RepL.mono ex _ _ h4⟩
    · have q' := q
      rw [List.getElem?_set_ne e] at q
      obtain ⟨v, p1, p2⟩ := r.slot j w q
      refine ⟨v, p1, ?_⟩
      cases w with
      | val d => exact Rep.mono ex d v p2
      | own xs =>
        obtain ⟨b, us, e2, p3, p4, p5⟩ := p2
        subst e2
        refine ⟨b, us, rfl, p3, ?_, RepL.mono ex _ _ p5⟩
        rw [upd_ne (nown b ⟨j, xs, q', p1⟩)]
        exact p4
      | bor xs =>
        obtain ⟨b, us, e2, p3, p5⟩ := p2
        exact ⟨b, us, e2, p3, RepL.mono ex _ _ p5⟩
  · have m : ∀ {l : Nat} {zs : List D}, (ρ.set i (some (W.val (.lst ds))))[l]? = some (some (.own zs)) → ρ[l]? = some (some (.own zs)) := fun {l zs} z => by
      by_cases e : i = l
      · subst e; rw [List.getElem?_set_self hi] at z; cases z
      · rw [List.getElem?_set_ne e] at z; exact z
    exact r.uno j k xs ys b (m q1) (m q2) q3 q4
  · have q1' : ρ[j]? = some (some (.bor xs)) := by
      by_cases e : i = j
      · subst e; rw [List.getElem?_set_self hi] at q1; cases q1
      · rw [List.getElem?_set_ne e] at q1; exact q1
    exact (r.apart j xs b q1' q2 (own_set_val (by intro ds z; cases z) q3)).mono ex
/-- an operand is handed on as a value -/
theorem toVal_step (s : Step κ K F ρ σ H0 F1 ρ1 σ H1) {p : Pl} {v : V} {d : D} (h : RepPw κ F1 ρ1 σ H0 H1 p v) (e : toVal ρ1 p = some (d, ρ2)) :
    ∃ F2, Step κ K F ρ σ H0 F2 ρ2 σ H1 ∧ Rep κ F2 d v ∧ ∀ q u, RepPw κ F1 ρ1 σ H0 H1 q u → RepPw κ F2 ρ2 σ H0 H1 q u := by
  cases p with
  | slot i =>
    have h : σ[i]? = some (some v) := h
    have e : (match (ρ1[i]?).join with
      | some (.val d) => some (d, ρ1)
      | some (.own ds) => some (.lst ds, ρ1.set i (some (.val (.lst ds))))
      | _ => none) = some (d, ρ2) := e
    cases q : (ρ1[i]?).join with
    | none => rw [q] at e; cases e
    | some w =>
      rw [q] at e
      cases w with
      | val d' =>
        cases e
        obtain ⟨v', h1, h2⟩ := s.rel.slot i _ (slot_get q)
        rw [h] at h1
        cases h1
        exact ⟨F1, s, h2, fun _ _ z => z⟩
      | own ds =>
        cases e
        obtain ⟨a, vs, h1, h2, h3, h4, R⟩ := s.rel.freezeSlot (slot_get q)
        rw [h] at h1
        cases h1
        have ex := ex_freeze (F := F1) (a := a) (vs := vs) (.inl h3)
        have hO : Own ρ1 σ a := ⟨i, ds, slot_get q, h⟩
        refine ⟨upd F1 a (.lst vs), ⟨R, fun b o z => ex b o (s.ex b o z), fun b o z => ?_, s.keep, s.dom, fun b z => s.own b (own_set_val (by intro ds z; cases z) z), fun j xs z => s.bor j xs (bor_set (by intro ds z; cases z) z)⟩, ?_, fun p u z => ?_⟩
        · by_cases e : b = a
          · subst e
            rcases s.own b hO with z | z
            · exact .inr (.inr z)
            · exact .inr (.inl z)
          · rw [upd_ne e] at z; exact s.new b o z
        · unfold Rep
          exact ⟨a, vs, rfl, upd_same, RepL.mono ex _ _ h4⟩
        · cases p with
          | slot j => exact z
          | tmp w =>
            cases w with
            | val d => exact Rep.mono ex d u z
            | own xs =>
              obtain ⟨b, us, e2, p1, p2, p3, p4, p5⟩ := z
              refine ⟨b, us, e2, p1, p2, ?_, fun z => p4 (own_set_val (by intro ds z; cases z) z), RepL.mono ex _ _ p5⟩
              rw [upd_ne (fun z => p4 (by subst z; exact hO))]
              exact p3
            | bor xs => exact z
      | bor ds => cases e
  | tmp w =>
    cases w with
    | val d' =>
      cases e
      exact ⟨F1, s, h, fun _ _ z => z⟩
    | own ds =>
      cases e
      obtain ⟨a, vs, e1, h1, h2, h3, h4, h5⟩ := h
      subst e1
      have ex := ex_freeze (F := F1) (a := a) (vs := vs) h3
      refine ⟨upd F1 a (.lst vs), ⟨s.rel.freeze h2 h4 h3, fun b o z => ex b o (s.ex b o z), fun b o z => ?_, s.keep, s.dom, s.own, s.bor⟩, ?_, fun p u z => ?_⟩
      · by_cases e : b = a
        · subst e; exact .inr (.inl h1)
        · rw [upd_ne e] at z; exact s.new b o z
      · unfold Rep
        exact ⟨a, vs, rfl, upd_same, RepL.mono ex _ _ h5⟩
      · cases p with
        | slot j => exact z
        | tmp w =>
          cases w with
          | val d => exact Rep.mono ex d u z
          | own xs =>
            obtain ⟨b, us, e2, p1, p2, p3, p4, p5⟩ := z
            refine ⟨b, us, e2, p1, p2, ?_, p4, RepL.mono ex _ _ p5⟩
            by_cases e : b = a
            · subst e
              rw [h2] at p2
              cases p2
              exact .inr upd_same
            · rw [upd_ne e]; exact p3
          | bor xs => exact z
    | bor ds => cases e
/-- operands one by one -/
inductive RepPs (κ : Cs) (F : Hp) (ρ : Ro) (σ : L2.St) (H0 H : Hp) : List Pl → List V → Prop
  | nil : RepPs κ F ρ σ H0 H [] []
  | cons {p : Pl} {ps : List Pl} {v : V} {vs : List V} : RepPw κ F ρ σ H0 H p v → RepPs κ F ρ σ H0 H ps vs → RepPs κ F ρ σ H0 H (p :: ps) (v :: vs)
theorem RepPs.imp {ρ' : Ro} {F' H' H0' : Hp} (f : ∀ p v, RepPw κ F ρ σ H0 H p v → RepPw κ F' ρ' σ H0' H' p v) : ∀ {ps : List Pl} {vs : List V}, RepPs κ F ρ σ H0 H ps vs → RepPs κ F' ρ' σ H0' H' ps vs
  | _, _, .nil => .nil
  | _, _, .cons a b => .cons (f _ _ a) (RepPs.imp f b)
theorem toVals_step : ∀ {ps : List Pl} {vs : List V} {ds : List D} {F1 : Hp} {ρ1 ρ2 : Ro}, Step κ K F ρ σ H0 F1 ρ1 σ H1 → RepPs κ F1 ρ1 σ H0 H1 ps vs → toVals ρ1 ps = some (ds, ρ2) →
    ∃ F2, Step κ K F ρ σ H0 F2 ρ2 σ H1 ∧ RepL κ F2 ds vs ∧ ∀ q u, RepPw κ F1 ρ1 σ H0 H1 q u → RepPw κ F2 ρ2 σ H0 H1 q u
  | [], _, _, F1, ρ1, ρ2, s, .nil, e => by
    cases e
    exact ⟨F1, s, repL_nil.mpr rfl, fun _ _ z => z⟩
  | p :: ps, v :: vs, ds, F1, ρ1, ρ2, s, .cons a b, e => by
    unfold toVals at e
    cases q : toVal ρ1 p with
    | none => rw [q] at e; cases e
    | some r =>
      obtain ⟨d, ρ3⟩ := r
      rw [q] at e
      obtain ⟨F3, s3, r3, k3⟩ := toVal_step s a q
      simp only at e
      cases q2 : toVals ρ3 ps with
      | none => rw [q2] at e; cases e
      | some r =>
        obtain ⟨es, ρ4⟩ := r
        rw [q2] at e
        cases e
        obtain ⟨F4, s4, r4, k4⟩ := toVals_step s3 (b.imp k3) q2
        refine ⟨F4, s4, repL_cc.mpr ⟨?_, r4⟩, fun q u z => k4 q u (k3 q u z)⟩
        exact k4 (.tmp (.val d)) v r3
/-- a new object -/
theorem Rel.alloc (r : Rel κ K F ρ σ H) {p : Addr} {o : HO} (hp : H p = none) : Rel κ K F ρ σ (upd H p o) where
  le := fun a u h => by rw [upd_ne (ne_of_none (r.le a u h) hp)]; exact r.le a u h
  len := r.len
  slot := fun i w h => by
    obtain ⟨v, h1, h2⟩ := r.slot i w h
    refine ⟨v, h1, ?_⟩
    cases w with
    | val d => exact h2
    | own ds =>
      obtain ⟨a, vs, e, h3, h4, h5⟩ := h2
      exact ⟨a, vs, e, by rw [upd_ne (ne_of_none h3 hp)]; exact h3, h4, h5⟩
    | bor ds =>
      obtain ⟨a, vs, e, h3, h5⟩ := h2
      refine ⟨a, vs, e, ?_, h5⟩
      rcases h3 with (h3 | ⟨o', h3⟩) | h3
      · exact .inl (.inl (by rw [upd_ne (ne_of_none h3 hp)]; exact h3))
      · exact .inl (.inr ⟨o', by rw [upd_ne (ne_of_none h3 hp)]; exact h3⟩)
      · exact .inr h3
  uno := r.uno
  apart := r.apart
theorem Rel.noF (r : Rel κ K F ρ σ H) {p : Addr} (hp : H p = none) : F p = none := by
  cases e : F p with
  | none => rfl
  | some o => rw [r.le p o e] at hp; cases hp
theorem Rel.noOwn (r : Rel κ K F ρ σ H) {p : Addr} (hp : H p = none) : ¬ Own ρ σ p := fun h => by
  obtain ⟨vs, e, _⟩ := r.own_at h
  rw [hp] at e; cases e
theorem Step.alloc (s : Step κ K F ρ σ H F1 ρ1 σ1 H1) {p : Addr} {o : HO} (hp : H1 p = none) : Step κ K F ρ σ H F1 ρ1 σ1 (upd H1 p o) :=
  ⟨s.rel.alloc hp, s.ex, s.new, fun a u h n => (by rw [upd_ne (ne_of_none (s.keep a u h n) hp)]; exact s.keep a u h n), fun a h => (by
    by_cases e : a = p
    · subst e; rw [upd_same]; intro z; cases z
    · rw [upd_ne e]; exact s.dom a h), s.own, s.bor⟩
/-- .. that nobody will change -/
theorem Rel.allocF (r : Rel κ K F ρ σ H) {p : Addr} {o : HO} (hp : H p = none) : Rel κ K (upd F p o) ρ σ (upd H p o) where
  le := fun a u h => by
    by_cases e : a = p
    · subst e; rw [upd_same] at h; cases h; exact upd_same
    · rw [upd_ne e] at h ⊢; exact r.le a u h
  len := r.len
  slot := fun i w h => by
    have ex : ∀ b u, F b = some u → upd F p o b = some u := fun b u h => by rw [upd_ne (ne_of_none (r.le b u h) hp)]; exact h
    obtain ⟨v, h1, h2⟩ := (r.alloc (o := o) hp).slot i w h
    refine ⟨v, h1, ?_⟩
    cases w with
    | val d => exact Rep.mono ex d v h2
    | own ds =>
      obtain ⟨a, vs, e, h3, h4, h5⟩ := h2
      refine ⟨a, vs, e, h3, ?_, RepL.mono ex _ _ h5⟩
      subst e
      rw [upd_ne (fun z => r.noOwn hp (by subst z; exact ⟨i, ds, h, h1⟩))]
      exact h4
    | bor ds =>
      obtain ⟨a, vs, e, h3, h5⟩ := h2
      exact ⟨a, vs, e, h3, RepL.mono ex _ _ h5⟩
  uno := r.uno
  apart := fun j ds b h1 h2 h3 => (r.apart j ds b h1 h2 h3).mono fun b u h => by rw [upd_ne (ne_of_none (r.le b u h) hp)]; exact h
theorem Step.exF (s : Step κ K F ρ σ H F1 ρ1 σ1 H1) {p : Addr} {o : HO} (hp : H1 p = none) : ∀ b u, F1 b = some u → upd F1 p o b = some u := fun b u h => by rw [upd_ne (ne_of_none (s.rel.le b u h) hp)]; exact h
theorem Step.allocF (s : Step κ K F ρ σ H F1 ρ1 σ1 H1) {p : Addr} {o : HO} (hp : H1 p = none) : Step κ K F ρ σ H (upd F1 p o) ρ1 σ1 (upd H1 p o) :=
  ⟨s.rel.allocF hp, fun a u h => s.exF hp a u (s.ex a u h), fun a u h => (by
    by_cases e : a = p
    · subst e; exact .inr (.inl (s.none_back hp))
    · rw [upd_ne e] at h; exact s.new a u h), (s.alloc (o := o) hp).keep, (s.alloc (o := o) hp).dom, s.own, s.bor⟩
/-- a new list as an operand -/
theorem Step.newOwn (s : Step κ K F ρ σ H F1 ρ1 σ H1) {p : Addr} {ds : List D} {vs : List V} (hp : H1 p = none) (h : RepL κ F1 ds vs) :
    RepP κ F1 ρ1 σ H (upd H1 p (.lst vs)) (.tmp (.own ds)) (.ref p) := ⟨p, vs, rfl, s.none_back hp, upd_same, s.rel.noF hp, s.rel.noOwn hp, h⟩
/-- a slot's own list is changed in place -/
theorem Step.change (s : Step κ K F ρ σ H F1 ρ1 σ H1) {i : Nat} {ds es : List D} {a : Addr} {us : List V} (h : ρ1[i]? = some (some (.own ds))) (ha : σ[i]? = some (some (.ref a))) (hr : RepL κ F1 es us) :
    Step κ K F ρ σ H F1 (ρ1.set i (some (.own es))) σ (upd H1 a (.lst us)) := by
  have r := s.rel
  have hO : Own ρ1 σ a := ⟨i, ds, h, ha⟩
  obtain ⟨vs, hH, hF⟩ := r.own_at hO
  have hi : i < ρ1.length := by
    rcases Nat.lt_or_ge i ρ1.length with q | q
    · exact q
    · rw [List.getElem?_eq_none q] at h; cases h
  have os : ∀ b, Own (ρ1.set i (some (W.own es))) σ b ↔ Own ρ1 σ b := fun b => own_set_same h
  refine ⟨⟨fun b o q => ?_, by rw [List.length_set]; exact r.len, fun j w q => ?_, fun j k xs ys b q1 q2 q3 q4 => ?_, fun j xs b q1 q2 q3 => ?_⟩, s.ex, s.new, fun b o q n => ?_, fun b q => ?_, fun b q => s.own b ((os b).mp q), fun j xs q => s.bor j xs (bor_set (by intro ds z; cases z) q)⟩
  · rw [upd_ne (fun z => by subst z; rw [hF] at q; cases q)]; exact r.le b o q
  · by_cases e : i = j
    · subst e
      rw [List.getElem?_set_self hi] at q
      cases q
      exact ⟨.ref a, ha, a, us, rfl, upd_same, hF, hr⟩
    · rw [List.getElem?_set_ne e] at q
      obtain ⟨v, p1, p2⟩ := r.slot j w q
      refine ⟨v, p1, ?_⟩
      cases w with
      | val d => exact p2
      | own xs =>
        obtain ⟨b, zs, e2, p3, p4, p5⟩ := p2
        subst e2
        refine ⟨b, zs, rfl, ?_, p4, p5⟩
        rw [upd_ne (fun z => by subst z; exact e (r.uno i j ds xs b h q ha p1))]
        exact p3
      | bor xs =>
        obtain ⟨b, zs, e2, p3, p5⟩ := p2
        subst e2
        by_cases nb : b = a
        · subst nb
          obtain ⟨ws, z1, z2⟩ := (r.apart j xs b q p1 hO).sq (H := upd H1 b (.lst us))
          exact ⟨b, ws, rfl, z1, z2⟩
        refine ⟨b, zs, rfl, ?_, p5⟩
        rcases p3 with (p3 | ⟨o', p3⟩) | p3
        · exact .inl (.inl (by rw [upd_ne nb]; exact p3))
        · exact .inl (.inr ⟨o', by rw [upd_ne nb]; exact p3⟩)
        · exact .inr p3
  · have m : ∀ {l : Nat} {zs : List D}, (ρ1.set i (some (W.own es)))[l]? = some (some (.own zs)) → ∃ ys, ρ1[l]? = some (some (.own ys)) := fun {l zs} z => by
      by_cases e : i = l
      · subst e; exact ⟨ds, h⟩
      · rw [List.getElem?_set_ne e] at z; exact ⟨zs, z⟩
    obtain ⟨x1, m1⟩ := m q1
    obtain ⟨x2, m2⟩ := m q2
    exact r.uno j k x1 x2 b m1 m2 q3 q4
  · have q1' : ρ1[j]? = some (some (.bor xs)) := by
      by_cases e : i = j
      · subst e; rw [List.getElem?_set_self hi] at q1; cases q1
      · rw [List.getElem?_set_ne e] at q1; exact q1
    exact r.apart j xs b q1' q2 ((os b).mp q3)
  · have nb : b ≠ a := fun z => by
      subst z
      rcases s.own b hO with z | z
      · exact n z
      · rw [q] at z; cases z
    rw [upd_ne nb]
    exact s.keep b o q n
  · by_cases e : b = a
    · subst e; rw [upd_same]; intro z; cases z
    · rw [upd_ne e]; exact s.dom b q
end
end DT

end
section
/-! DT: operators, comparisons, subscripts over the values. -/
namespace DT
open PySem PySem.Spec PyProof.Rows L2

theorem big_le {n : Nat} (h : n ≤ big) : n ≤ sizeLine := Nat.le_trans h (by rw [sizeLine_eq]; decide)
theorem big_lt {n : Nat} (h : n < big) : n < sizeLine := Nat.lt_of_lt_of_le h (by rw [sizeLine_eq]; decide)

/-- what follows a result w -/
def Yld (κ : Cs) (K : PySem.W.Frag) (F : Hp) (ρ : Ro) (σ : L2.St) (H : Hp) (ρ2 : Ro) (p : Pl) (Q : VK) : Prop :=
  ∀ F3 H3 v, Step κ K F ρ σ H F3 ρ2 σ H3 → RepP κ F3 ρ2 σ H H3 p v → Q v H3

section
variable {κ : Cs} {K : PySem.W.Frag} {F F1 F2 H H0 H1 H2 : Hp} {ρ ρ1 ρ2 : Ro} {σ : L2.St}
/-- the data that a value is -/
theorem dp_repL (h0 : ∀ d ∈ ([] : List D), True) : True := trivial
mutual
theorem dp_rep (le : ∀ a o, F a = some o → H a = some o) : ∀ (d : D) (v : V) (x : PyData), toPy d = some x → Rep κ F d v → Dp K H v x
  | .non, v, x, e, h => by unfold Rep at h; unfold toPy at e; cases e; subst h; exact .non
  | .bl b, v, x, e, h => by unfold Rep at h; unfold toPy at e; cases e; subst h; exact .bl b
  | .int i, v, x, e, h => by unfold Rep at h; unfold toPy at e; cases e; subst h; exact .int i
  | .str s, v, x, e, h => by unfold Rep at h; unfold toPy at e; cases e; subst h; exact .str s
  | .tup ds, v, x, e, h => by
    unfold Rep at h
    unfold toPy at e
    cases q : toPys ds with
    | none => rw [q] at e; cases e
    | some xs =>
      rw [q] at e
      cases e
      obtain ⟨a, o, vs, rfl, h0, h2, h3⟩ := h
      exact .tup (sqT_f (le a _ h2)) (dp_repL' le ds vs xs q h3)
  | .cls _, v, x, e, h => by unfold toPy at e; cases e
  | .dic _ _, v, x, e, h => by unfold toPy at e; cases e
  | .lst ds, v, x, e, h => by
    unfold Rep at h
    unfold toPy at e
    cases q : toPys ds with
    | none => rw [q] at e; cases e
    | some xs =>
      rw [q] at e
      cases e
      obtain ⟨a, vs, rfl, h2, h3⟩ := h
      exact .lst (SqL.of (le a _ h2)) (dp_repL' le ds vs xs q h3)
  | .ins _ _, v, x, e, h => by unfold toPy at e; cases e
theorem dp_repL' (le : ∀ a o, F a = some o → H a = some o) : ∀ (ds : List D) (vs : List V) (xs : List PyData), toPys ds = some xs → RepL κ F ds vs → DpAll K H vs xs
  | [], vs, xs, e, h => by rw [repL_nil] at h; unfold toPys at e; cases e; subst h; exact .nil
  | d :: ds, vs, xs, e, h => by
    rw [repL_cons] at h
    obtain ⟨v, r, rfl, h1, h2⟩ := h
    unfold toPys at e
    cases q1 : toPy d with
    | none => rw [q1] at e; cases e
    | some x =>
      cases q2 : toPys ds with
      | none => rw [q1, q2] at e; cases e
      | some ys =>
        rw [q1, q2] at e
        cases e
        exact .cons (dp_rep le d v x q1 h1) (dp_repL' le ds r ys q2 h2)
end
theorem dp_repQ (le : ∀ a o, F a = some o → H a = some o) {d : D} {v : V} {x : PyData} (e : toPy d = some x) (h : RepQ κ K F H d v) : Dp K H v x := by
  cases d with
  | lst ds =>
    obtain ⟨a, vs, rfl, h2, h3⟩ := h
    unfold toPy at e
    cases q : toPys ds with
    | none => rw [q] at e; cases e
    | some xs =>
      rw [q] at e
      cases e
      exact .lst h2 (dp_repL' le ds vs xs q h3)
  | non => exact dp_rep (κ := κ) le _ v x e h
  | bl b => exact dp_rep (κ := κ) le _ v x e h
  | int i => exact dp_rep (κ := κ) le _ v x e h
  | str s => exact dp_rep (κ := κ) le _ v x e h
  | tup ds => exact dp_rep (κ := κ) le _ v x e h
  | ins c ds => exact dp_rep (κ := κ) le _ v x e h
  | cls c => exact dp_rep (κ := κ) le _ v x e h
  | dic ks ds => exact dp_rep (κ := κ) le _ v x e h
end

section
variable {X : Cx}
/-- in a tuple -/
def rInT (K : PySem.W.Frag) (neg : Bool) : R2 := fun x y H Q => ∃ d ds, Dp K H x d ∧ Dp K H y (.tuple ds) ∧ SeqAt.shaped d = true ∧ SeqAt.shaped (.list ds) = true ∧ Q (.bl (if neg then !(ds.any fun z => PyData.eqv z d) else ds.any fun z => PyData.eqv z d)) H
theorem op_inT (hu : X.A.units + 65 < cLine) : OpR X (compareOp .In) (rInT X.K false) := by
  intro pins s σ H x y v u Q I rx ry h
  obtain ⟨d, ds, hd, he, sd, se, q⟩ := h
  obtain ⟨as, r1⟩ := Dp.reads I d x v hd rx
  obtain ⟨bs, r2⟩ := Dp.reads I (.tuple ds) y u he ry
  exact SeqAt.in_tuple_reads r2 r1 (SeqAt.canLay_of_shaped se) (SeqAt.canLay_of_shaped sd) (room_in_shaped sd hu) ⟨.bl _, H, I, rfl, q⟩
theorem op_notInT (hu : X.A.units + 65 < cLine) : OpR X (compareOp .NotIn) (rInT X.K true) := by
  intro pins s σ H x y v u Q I rx ry h
  obtain ⟨d, ds, hd, he, sd, se, q⟩ := h
  obtain ⟨as, r1⟩ := Dp.reads I d x v hd rx
  obtain ⟨bs, r2⟩ := Dp.reads I (.tuple ds) y u he ry
  exact SeqAt.notIn_tuple_reads r2 r1 (SeqAt.canLay_of_shaped se) (SeqAt.canLay_of_shaped sd) (room_in_shaped sd hu) ⟨.bl _, H, I, rfl, q⟩

/-! ### operators -/
def opOf : Op2 → Operator
  | .add => .Add | .sub => .Sub | .mul => .Mult | .fdiv => .FloorDiv | .mod => .Mod | .pow => .Pow
def rStrAdd : R2 := fun x y H Q => ∃ i j, x = .str i ∧ y = .str j ∧ i.length + j.length ≤ sizeLine ∧ Q (.str (i ++ j)) H
def rOp (K : PySem.W.Frag) : Op2 → R2
  | .add => fun x y H Q => rI0 (fun i j => .int (i + j)) x y H Q ∨ rStrAdd x y H Q ∨ rCatF K x y H Q ∨ rCat x y H Q
  | .sub => rI0 fun i j => .int (i - j)
  | .mul => fun x y H Q => rI CMul (fun i j => .int (i * j)) x y H Q ∨ rRep x y H Q
  | .fdiv => rI CDiv fun i j => .int (i / j)
  | .mod => rI (fun _ j => 0 < j) fun i j => .int (i % j)
  | .pow => rI CPow fun i j => .int (i ^ j.toNat)
theorem op_all (o : Op2) : OpR X (binaryOp (opOf o)) (rOp X.K o) := by
  cases o with
  | add => exact op_add.or (op_add_str.or (op_catF.or op_cat))
  | sub => exact op_sub
  | mul => exact op_mul.or op_rep
  | fdiv => exact op_fdiv
  | mod => exact op_mod
  | pow => exact op_pow
end

section
variable {κ : Cs} {K : PySem.W.Frag} {F F1 F2 H H0 H1 H2 : Hp} {ρ ρ1 ρ2 : Ro} {σ : L2.St}
theorem yld_val (s : Step κ K F ρ σ H F2 ρ2 σ H2) {d : D} {v : V} {Q : VK} (y : Yld κ K F ρ σ H ρ2 (.tmp (.val d)) Q) (h : Rep κ F2 d v) : Q v H2 := y F2 H2 v s h
theorem yld_own (s : Step κ K F ρ σ H F2 ρ2 σ H2) {ds : List D} {vs : List V} {Q : VK} (y : Yld κ K F ρ σ H ρ2 (.tmp (.own ds)) Q) (h : RepL κ F2 ds vs) : ∀ p, H2 p = none → Q (.ref p) (upd H2 p (.lst vs)) := fun p hp =>
  y F2 _ _ (s.alloc hp) (s.newOwn hp h)
theorem yld_tup (s : Step κ K F ρ σ H F2 ρ2 σ H2) {ds : List D} {vs : List V} {Q : VK} (y : Yld κ K F ρ σ H ρ2 (.tmp (.val (.tup ds))) Q) (h : RepL κ F2 ds vs) : newT vs H2 Q := fun p o hp ho => by
  refine y (upd F2 p (tf o vs)) _ _ (s.allocF hp) ?_
  show Rep κ _ _ _
  unfold Rep
  exact ⟨p, o, vs, rfl, ho, upd_same, RepL.mono (s.exF hp) _ _ h⟩
theorem bin_ok (s : Step κ K F ρ σ H F2 ρ2 σ H2) {o : Op2} {a b : D} {x y : V} {w : W} {Q : VK} (e : bin2 o a b = some w) (ha : RepC κ F2 H2 a x) (hb : RepC κ F2 H2 b y) (Y : Yld κ K F ρ σ H ρ2 (.tmp w) Q) : rOp K o x y H2 Q := by
  have hT : ∀ {ds : List D} {v : V}, RepC κ F2 H2 (.tup ds) v → ∃ a vs, v = .ref a ∧ SqT K H2 a vs ∧ RepL κ F2 ds vs ∧ Rep κ F2 (.tup ds) (.ref a) := fun {ds v} h => by
    have h : Rep κ F2 (.tup ds) v := h
    have h' := h
    unfold Rep at h
    obtain ⟨a, o, vs, rfl, h0, h2, h3⟩ := h
    exact ⟨a, vs, rfl, sqT_f (s.rel.le a _ h2), h3, h'⟩
  have hI : ∀ {i : Int} {v : V}, RepC κ F2 H2 (.int i) v → v = .int i := fun {i v} h => by
    have h : Rep κ F2 (.int i) v := h
    unfold Rep at h
    exact h
  have hS : ∀ {i : Str} {v : V}, RepC κ F2 H2 (.str i) v → v = .str i := fun {i v} h => by
    have h : Rep κ F2 (.str i) v := h
    unfold Rep at h
    exact h
  have rint : ∀ i : Int, Rep κ F2 (.int i) (.int i) := fun i => by unfold Rep; rfl
  have rstr : ∀ i : Str, Rep κ F2 (.str i) (.str i) := fun i => by unfold Rep; rfl
  unfold bin2 at e
  split at e
  · cases e
    exact .inl ⟨_, _, hI ha, hI hb, yld_val s Y (rint _)⟩
  · split at e
    · cases e
      exact .inr (.inl ⟨_, _, hS ha, hS hb, big_le (by assumption), yld_val s Y (rstr _)⟩)
    · cases e
  · split at e
    · rename_i hz
      cases e
      obtain ⟨p, xs, rfl, h1, h2, h3⟩ := hT ha
      obtain ⟨q, ys, rfl, k1, k2, k3⟩ := hT hb
      have l1 := h2.length
      have l2 := k2.length
      refine .inr (.inr (.inl ⟨p, q, xs, ys, rfl, rfl, h1, k1, big_le (by omega), fun z => ?_, fun _ z => ?_, fun _ _ => ?_⟩))
      · subst z
        have z : _ = [] := List.eq_nil_of_length_eq_zero (by simpa using l1)
        subst z
        exact yld_val s Y k3
      · subst z
        have z : _ = [] := List.eq_nil_of_length_eq_zero (by simpa using l2)
        subst z
        rw [List.append_nil] at Y
        exact yld_val s Y h3
      · exact yld_tup s Y (h2.append k2)
    · cases e
  · split at e
    · rename_i hz
      cases e
      obtain ⟨p, xs, rfl, h1, h2⟩ := ha
      obtain ⟨q, ys, rfl, k1, k2⟩ := hb
      have l1 := h2.length
      have l2 := k2.length
      exact .inr (.inr (.inr ⟨p, q, xs, ys, rfl, rfl, h1, k1, big_le (by omega), yld_own s Y (h2.append k2)⟩))
    · cases e
  · cases e
    exact ⟨_, _, hI ha, hI hb, yld_val s Y (rint _)⟩
  · split at e
    · rename_i hc
      cases e
      refine .inl ⟨_, _, hI ha, hI hb, ?_, yld_val s Y (rint _)⟩
      simp only [Bool.or_eq_true, Bool.and_eq_true, decide_eq_true_eq] at hc
      exact hc
    · cases e
  · split at e
    · rename_i hc
      cases e
      obtain ⟨p, xs, rfl, h1, h2⟩ := ha
      have l1 := h2.length
      obtain ⟨c1, c2, c3⟩ := hc
      exact .inr ⟨p, _, xs, rfl, hI hb, h1, by omega, by omega, big_le (by rw [← l1]; exact c3), yld_own s Y (h2.rep _)⟩
    · cases e
  · split at e
    · rename_i hc
      cases e
      exact ⟨_, _, hI ha, hI hb, hc, yld_val s Y (rint _)⟩
    · cases e
  · split at e
    · rename_i hc
      cases e
      exact ⟨_, _, hI ha, hI hb, hc, yld_val s Y (rint _)⟩
    · cases e
  · split at e
    · rename_i hc
      cases e
      obtain ⟨c1, c2, c3⟩ := hc
      exact ⟨_, _, hI ha, hI hb, ⟨c1, by omega, by omega⟩, yld_val s Y (rint _)⟩
    · cases e
  · cases e
end

/-! ### comparisons -/
section
variable {X : Cx}
def cmOf : Cm → CmpOp
  | .eq => .Eq | .ne => .NotEq | .lt => .Lt | .le => .LtE | .gt => .Gt | .ge => .GtE | .isin => .In | .notin => .NotIn | .isN => .Is | .isnotN => .IsNot
/-- y in d, y not in d -/
def rDIn (n : Bool) : R2 := fun y x H Q => ∃ a o, x = .ref a ∧ DGet H a y o ∧ Q (.bl (if n then !o.isSome else o.isSome)) H
theorem op_din (hu : X.A.units + 1 < cLine) : OpR X (compareOp .In) (rDIn false) := by
  intro pins s σ H y x u v Q I ry rx h
  obtain ⟨a, o, rfl, g, q⟩ := h
  obtain rfl : v = Value.ref a := rx
  exact d_in hu I g ry fun s3 I3 => ⟨.bl o.isSome, H, I3, rfl, q⟩
theorem op_dnotin (hu : X.A.units + 1 < cLine) : OpR X (compareOp .NotIn) (rDIn true) := by
  intro pins s σ H y x u v Q I ry rx h
  obtain ⟨a, o, rfl, g, q⟩ := h
  obtain rfl : v = Value.ref a := rx
  exact d_notIn hu I g ry fun s3 I3 => ⟨.bl (!o.isSome), H, I3, rfl, q⟩
/-- d[y] -/
def rDIx : R2 := fun x y H Q => ∃ a v, x = .ref a ∧ DGet H a y (some v) ∧ Q v H
theorem ix_dic (hu : X.A.units + 1 < cLine) : IxR X rDIx := by
  intro value slice pins s σ H x y v u Q I rx ry h hs
  obtain ⟨a, r, rfl, g, q⟩ := h
  obtain rfl : v = Value.ref a := rx
  exact tail_any (dict_typeIs I g) PySem.F.slot_dict_getitem.lookup (d_getItem hu I g ry fun w' s3 I3 rw' => ⟨r, H, I3, rw', q⟩) hs
def rCm (K : PySem.W.Frag) : Cm → R2
  | .eq => rEqD K
  | .ne => rNeD K
  | .lt => fun x y H Q => rI0 (fun i j => .bl (decide (i < j))) x y H Q ∨ rLtT K x y H Q
  | .le => rI0 fun i j => .bl (decide (i ≤ j))
  | .gt => rI0 fun i j => .bl (decide (j < i))
  | .ge => rI0 fun i j => .bl (decide (j ≤ i))
  | .isin => fun x y H Q => (rInD K x y H Q ∨ rInT K false x y H Q) ∨ rDIn false x y H Q
  | .notin => fun x y H Q => (rNotInD K x y H Q ∨ rInT K true x y H Q) ∨ rDIn true x y H Q
  | .isN => fun x y H Q => y = .non ∧ Q (.bl (decide (x = .non))) H
  | .isnotN => fun x y H Q => y = .non ∧ Q (.bl (!decide (x = .non))) H
theorem cm_all (hu : X.A.units + 65 < cLine) (o : Cm) : OpR X (compareOp (cmOf o)) (rCm X.K o) := by
  cases o with
  | eq => exact op_eqD (by omega)
  | ne => exact op_neD (by omega)
  | lt => exact op_lt.or (op_ltT (by omega))
  | le => exact op_le
  | gt => exact op_gt
  | ge => exact op_ge
  | isin => exact ((op_inD hu).or (op_inT hu)).or (op_din (by omega))
  | notin => exact ((op_notInD hu).or (op_notInT hu)).or (op_dnotin (by omega))
  | isN => exact op_isN
  | isnotN => exact op_notN
end
section
variable {κ : Cs} {K : PySem.W.Frag} {F F1 F2 H H0 H1 H2 : Hp} {ρ ρ1 ρ2 : Ro} {σ : L2.St}
theorem repQ_int {i : Int} {v : V} (h : RepQ κ K F H (.int i) v) : v = .int i := by
  have h : Rep κ F (.int i) v := h
  unfold Rep at h
  exact h
theorem repQ_str {i : Str} {v : V} (h : RepQ κ K F H (.str i) v) : v = .str i := by
  have h : Rep κ F (.str i) v := h
  unfold Rep at h
  exact h
theorem repQ_bl {i : Bool} {v : V} (h : RepQ κ K F H (.bl i) v) : v = .bl i := by
  have h : Rep κ F (.bl i) v := h
  unfold Rep at h
  exact h
theorem repQ_tup (le : ∀ a o, F a = some o → H a = some o) {ds : List D} {v : V} (h : RepQ κ K F H (.tup ds) v) : ∃ a vs, v = .ref a ∧ SqT K H a vs ∧ RepL κ F ds vs := by
  have h : Rep κ F (.tup ds) v := h
  unfold Rep at h
  obtain ⟨a, o, vs, rfl, h0, h2, h3⟩ := h
  exact ⟨a, vs, rfl, sqT_f (le a _ h2), h3⟩
theorem Rep.tupE {ds : List D} {v : V} (h : Rep κ F (.tup ds) v) : ∃ a o vs, v = .ref a ∧ o.dict = none ∧ F a = some (tf o vs) ∧ RepL κ F ds vs := by unfold Rep at h; exact h
theorem rep_bl (b : Bool) : Rep κ F (.bl b) (.bl b) := by unfold Rep; rfl
theorem rep_int (b : Int) : Rep κ F (.int b) (.int b) := by unfold Rep; rfl
theorem rep_str (b : Str) : Rep κ F (.str b) (.str b) := by unfold Rep; rfl
theorem rep_non : Rep κ F .non .non := by unfold Rep; rfl
theorem non_iff {d : D} {v : V} (h : RepQ κ K F H d v) : decide (v = .non) = isNon d := by
  cases d with
  | non =>
    have h : Rep κ F .non v := h
    unfold Rep at h
    subst h
    rfl
  | bl b => have e := repQ_bl h; subst e; rfl
  | int b => have e := repQ_int h; subst e; rfl
  | str b => have e := repQ_str h; subst e; rfl
  | lst ds => obtain ⟨a, vs, rfl, _⟩ := h; rfl
  | tup ds =>
    have h : Rep κ F (.tup ds) v := h
    unfold Rep at h
    obtain ⟨a, o, vs, rfl, _⟩ := h
    rfl
  | cls c =>
    have h : Rep κ F (.cls c) v := h
    unfold Rep at h
    obtain ⟨C, rfl, _⟩ := h
    rfl
  | dic ks ds =>
    have h : Rep κ F (.dic ks ds) v := h
    unfold Rep at h
    obtain ⟨a, kvs, rfl, _⟩ := h
    rfl
  | ins c ds =>
    have h : Rep κ F (.ins c ds) v := h
    unfold Rep at h
    obtain ⟨a, C, dx, vs, rfl, _⟩ := h
    rfl
theorem dic_rep {ks : List Int} {ds : List D} {v : V} (h : RepQ κ K F H (.dic ks ds) v) : ∃ a kvs, v = .ref a ∧ F a = some (.dK kvs) ∧ kvs.map (·.1) = ks.map Sum.inl ∧ RepL κ F ds (kvs.map (·.2)) := by
  have h : Rep κ F (.dic ks ds) v := h
  unfold Rep at h
  exact h
theorem dicAt_opt {i : Int} : ∀ {ks : List Int} {ds : List D} {kvs : List (Key × V)}, kvs.map (·.1) = ks.map Sum.inl → RepL κ F ds (kvs.map (·.2)) →
    (∀ d, dicAt ks ds i = some d → ∃ v, valV kvs (Sum.inl i : Key) = some v ∧ Rep κ F d v) ∧ (dicAt ks ds i = none → valV kvs (Sum.inl i : Key) = none)
  | [], ds, kvs, h1, h2 => by
    cases kvs with
    | nil => exact ⟨fun d e => by simp [dicAt] at e, fun _ => rfl⟩
    | cons _ _ => simp at h1
  | k :: ks, ds, kvs, h1, h2 => by
    cases kvs with
    | nil => simp at h1
    | cons kv kvs =>
      cases ds with
      | nil => have := h2.length; simp at this
      | cons d ds =>
        rw [List.map_cons, List.map_cons] at h1
        rw [List.map_cons] at h2
        obtain ⟨z1, z2⟩ := repL_cc.mp h2
        injection h1 with h3 h4
        have ih := dicAt_opt (i := i) h4 z2
        unfold dicAt
        by_cases c : k = i
        · subst c
          rw [if_pos rfl]
          exact ⟨fun d' e => by cases e; exact ⟨_, valV_pos h3, z1⟩, fun e => by cases e⟩
        · rw [if_neg c]
          have e0 : valV (kv :: kvs) (Sum.inl i : Key) = valV kvs (Sum.inl i : Key) := valV_neg (fun z => c (Sum.inl.inj (h3.symm.trans z)))
          rw [e0]
          exact ih
theorem dicAt_isSome {i : Int} {ks : List Int} {ds : List D} {kvs : List (Key × V)} (h1 : kvs.map (·.1) = ks.map Sum.inl) (h2 : RepL κ F ds (kvs.map (·.2))) : (dicAt ks ds i).isSome = (valV kvs (Sum.inl i : Key)).isSome := by
  have h := dicAt_opt (i := i) h1 h2
  cases q : dicAt ks ds i with
  | none => rw [h.2 q]; rfl
  | some d =>
    obtain ⟨v, e, _⟩ := h.1 d q
    rw [e]
    rfl
theorem cmp_ok (le : ∀ a o, F2 a = some o → H2 a = some o) {o : Cm} {a b : D} {x y : V} {c : Bool} {Q : VK} (e : cmp2 o a b = some c) (ha : RepQ κ K F2 H2 a x) (hb : RepQ κ K F2 H2 b y) (Y : Q (.bl c) H2) : rCm K o x y H2 Q := by
  have eqd : ∀ {a b : D} {c : Bool} {x y : V}, eqD a b = some c → RepQ κ K F2 H2 a x → RepQ κ K F2 H2 b y → ∃ d e, Dp K H2 x d ∧ Dp K H2 y e ∧ SeqAt.shaped d = true ∧ SeqAt.shaped e = true ∧ PyData.eqv d e = c := fun {a b c x y} e ha hb => by
    unfold eqD at e
    cases q1 : toPy a with
    | none => rw [q1] at e; cases e
    | some d =>
      cases q2 : toPy b with
      | none => rw [q1, q2] at e; cases e
      | some d' =>
        rw [q1, q2] at e
        simp only at e
        split at e
        · rename_i hs
          cases e
          rw [Bool.and_eq_true] at hs
          exact ⟨d, d', dp_repQ le q1 ha, dp_repQ le q2 hb, hs.1, hs.2, rfl⟩
        · cases e
  have ind : ∀ {a : D} {ds : List D} {c : Bool} {x : V}, inD a ds = some c → RepQ κ K F2 H2 a x → ∃ d es, Dp K H2 x d ∧ toPys ds = some es ∧ SeqAt.shaped d = true ∧ SeqAt.shaped (.list es) = true ∧ (es.any fun z => PyData.eqv z d) = c := fun {a ds c x} e ha => by
    unfold inD at e
    cases q1 : toPy a with
    | none => rw [q1] at e; cases e
    | some d =>
      cases q2 : toPys ds with
      | none => rw [q1, q2] at e; cases e
      | some es =>
        rw [q1, q2] at e
        simp only at e
        split at e
        · rename_i hs
          cases e
          rw [Bool.and_eq_true] at hs
          exact ⟨d, es, dp_repQ le q1 ha, rfl, hs.1, hs.2, rfl⟩
        · cases e
  unfold cmp2 at e
  split at e
  · obtain ⟨d, d', h1, h2, h3, h4, h5⟩ := eqd e ha hb
    exact ⟨d, d', h1, h2, h3, h4, by rw [h5]; exact Y⟩
  · cases q : eqD a b with
    | none => rw [q] at e; cases e
    | some k =>
      rw [q] at e
      cases e
      obtain ⟨d, d', h1, h2, h3, h4, h5⟩ := eqd q ha hb
      exact ⟨d, d', h1, h2, h3, h4, by rw [h5]; exact Y⟩
  · cases e; exact .inl ⟨_, _, repQ_int ha, repQ_int hb, Y⟩
  · cases e; exact ⟨_, _, repQ_int ha, repQ_int hb, Y⟩
  · cases e; exact ⟨_, _, repQ_int ha, repQ_int hb, Y⟩
  · cases e; exact ⟨_, _, repQ_int ha, repQ_int hb, Y⟩
  · rename_i xs ys
    cases q1 : intsD xs with
    | none => rw [q1] at e; cases e
    | some ns =>
      cases q2 : intsD ys with
      | none => rw [q1, q2] at e; cases e
      | some ms =>
        rw [q1, q2] at e
        cases e
        obtain ⟨a, vs, rfl, h1, h2⟩ := repQ_tup le ha
        obtain ⟨b, us, rfl, k1, k2⟩ := repQ_tup le hb
        rw [repL_ints q1 h2] at h1
        rw [repL_ints q2 k2] at k1
        exact .inr ⟨a, b, ns, ms, rfl, rfl, h1, k1, Y⟩
  · rename_i ds
    obtain ⟨d, es, h1, h2, h3, h4, h5⟩ := ind e ha
    refine .inl (.inr ⟨d, es, h1, dp_repQ (d := .tup ds) le (by unfold toPy; rw [h2]; rfl) hb, h3, h4, ?_⟩)
    rw [h5]
    exact Y
  · rename_i ds
    obtain ⟨d, es, h1, h2, h3, h4, h5⟩ := ind e ha
    refine .inl (.inl ⟨d, es, h1, dp_repQ (d := .lst ds) le (by unfold toPy; rw [h2]; rfl) hb, h3, h4, ?_⟩)
    rw [h5]
    exact Y
  · rename_i ds
    cases q : inD a ds with
    | none => rw [q] at e; cases e
    | some k =>
      rw [q] at e
      cases e
      obtain ⟨d, es, h1, h2, h3, h4, h5⟩ := ind q ha
      refine .inl (.inr ⟨d, es, h1, dp_repQ (d := .tup ds) le (by unfold toPy; rw [h2]; rfl) hb, h3, h4, ?_⟩)
      rw [h5]
      exact Y
  · rename_i ds
    cases q : inD a ds with
    | none => rw [q] at e; cases e
    | some k =>
      rw [q] at e
      cases e
      obtain ⟨d, es, h1, h2, h3, h4, h5⟩ := ind q ha
      refine .inl (.inl ⟨d, es, h1, dp_repQ (d := .lst ds) le (by unfold toPy; rw [h2]; rfl) hb, h3, h4, ?_⟩)
      rw [h5]
      exact Y
  · rename_i n ks ds
    cases e
    obtain ⟨p, kvs, rfl, hF, q2, q3⟩ := dic_rep hb
    refine .inr ⟨p, valV kvs (Sum.inl n : Key), rfl, by rw [repQ_int ha]; exact DGet.k (k := Sum.inl n) (le p _ hF), ?_⟩
    rw [← dicAt_isSome q2 q3]
    exact Y
  · rename_i n ks ds
    cases e
    obtain ⟨p, kvs, rfl, hF, q2, q3⟩ := dic_rep hb
    refine .inr ⟨p, valV kvs (Sum.inl n : Key), rfl, by rw [repQ_int ha]; exact DGet.k (k := Sum.inl n) (le p _ hF), ?_⟩
    rw [← dicAt_isSome q2 q3]
    exact Y
  · refine ⟨?_, ?_⟩
    · have hb : Rep κ F2 .non y := hb
      unfold Rep at hb
      exact hb
    · rw [non_iff ha]
      cases e
      exact Y
  · refine ⟨?_, ?_⟩
    · have hb : Rep κ F2 .non y := hb
      unfold Rep at hb
      exact hb
    · rw [non_iff ha]
      cases e
      exact Y
  · cases e

/-! ### subscripts -/
theorem atI_rep {ds : List D} {vs : List V} {i : Int} {d : D} (h : RepL κ F ds vs) (e : atI ds i = some d) : ∃ v, atI vs i = some v ∧ Rep κ F d v := by
  unfold atI at e ⊢
  rw [← h.length]
  cases q : ixN ds.length i with
  | none => rw [q] at e; cases e
  | some j =>
    rw [q] at e
    exact h.get e
theorem ix_ok (s : Step κ K F ρ σ H F2 ρ2 σ H2) {a b : D} {x y : V} {d : D} {Q : VK} (e : ixD a b = some d) (ha : RepQ κ K F2 H2 a x) (hb : RepQ κ K F2 H2 b y) (Y : Yld κ K F ρ σ H ρ2 (.tmp (.val d)) Q) : rIx K x y H2 Q ∨ rDIx x y H2 Q := by
  unfold ixD at e
  split at e
  · obtain ⟨p, vs, rfl, h1, h2⟩ := repQ_tup s.rel.le ha
    obtain ⟨v, h3, h4⟩ := atI_rep h2 e
    exact .inl (.inr (.inl ⟨p, vs, _, v, rfl, repQ_int hb, h1, h3, yld_val s Y h4⟩))
  · obtain ⟨p, vs, rfl, h1, h2⟩ := ha
    obtain ⟨v, h3, h4⟩ := atI_rep h2 e
    exact .inl (.inl ⟨p, vs, _, v, rfl, repQ_int hb, h1, h3, yld_val s Y h4⟩)
  · obtain ⟨p, kvs, rfl, hF, q2, q3⟩ := dic_rep ha
    obtain ⟨v, e1, e2⟩ := (dicAt_opt q2 q3).1 _ e
    refine .inr ⟨p, v, rfl, ?_, yld_val s Y e2⟩
    rw [repQ_int hb, ← e1]
    exact DGet.k (k := Sum.inl _) (s.rel.le p _ hF)
  · split at e
    · rename_i x' i hz
      cases q : atI x'.cps.toList i with
      | none => rw [q] at e; cases e
      | some c =>
        rw [q] at e
        cases e
        exact .inl (.inr (.inr ⟨_, _, c, repQ_str ha, repQ_int hb, big_le hz, q, yld_val s Y (rep_str _)⟩))
    · cases e
  · cases e
end
end DT

end
section
/-! DT: what a def promises, in values; the call of one. -/
namespace DT
open PySem PySem.Spec PyProof.Rows L2

/-- the result of a call that began at the heap H -/
def ResR (κ : Cs) (F' H H' : Hp) : W → V → Prop
  | .val d, v => Rep κ F' d v
  | .own ds, v => ∃ a us, v = .ref a ∧ H a = none ∧ H' a = some (.lst us) ∧ F' a = none ∧ RepL κ F' ds us
  | .bor _, _ => False
/-- the lists that were to be changed, behind the call -/
def OutsR (κ : Cs) (F' H' : Hp) : List Mode → List V → List (List D) → Prop
  | [], [], [] => True
  | .own :: ms, v :: vs, l :: ls => (∃ a us, v = .ref a ∧ H' a = some (.lst us) ∧ F' a = none ∧ RepL κ F' l us) ∧ OutsR κ F' H' ms vs ls
  | .val :: ms, _ :: vs, ls => OutsR κ F' H' ms vs ls
  | .bor :: ms, _ :: vs, ls => OutsR κ F' H' ms vs ls
  | _, _, _ => False
structure After (κ : Cs) (fn : Fn) (F : Hp) (ρ0 : Ro) (vs : List V) (H : Hp) (w : W) (outs : List (List D)) (F' H' : Hp) (v : V) : Prop where
  ex : ∀ a o, F a = some o → F' a = some o
  le : ∀ a o, F' a = some o → H' a = some o
  new : ∀ a o, F' a = some o → F a = some o ∨ H a = none
  keep : ∀ a o, H a = some o → ¬ Own ρ0 (vs.map some) a → H' a = some o
  dom : ∀ a, H a ≠ none → H' a ≠ none
  outs : OutsR κ F' H' fn.modes vs outs
  res : ResR κ F' H H' w v
/-- a def's promise -/
def SpF (κ : Cs) (K : PySem.W.Frag) (fn : Fn) (vs : List V) (H : Hp) (Q : VK) : Prop :=
  ∃ F ds ρ0 w outs, args0 fn.modes ds = some ρ0 ∧ Rel κ K F ρ0 (vs.map some) H ∧ fn.run ds = some (w, outs) ∧ ∀ F' H' v, After κ fn F ρ0 vs H w outs F' H' v → Q v H'
/-- the def at f keeps it, called from wherever there is room -/
def FnG (P : Program) (w : World) (K : PySem.W.Frag) (mg : Str → Option Value) (base : Heap) (κ : Cs) (gb : Bool) (k : Nat) (f : Addr) (fn : Fn) : Prop :=
  ∀ (A : Around) (outer : List PySem.Env) (s : Shared) (H : Hp) (us : List Value) (vs : List V) (Q : VK), Room k A → (gb = true → A.guards = some []) → Env0 P w K mg base A outer s H → Vals vs us → SpF κ K fn vs H Q →
    codeAny (model P w) A (.call (.ref f) ⟨us, []⟩) (CR CX0 outer P w H s Q (fun _ _ _ => False)) s
theorem FnG.mono {P : Program} {w : World} {K : PySem.W.Frag} {mg : Str → Option Value} {base : Heap} {κ : Cs} {gb : Bool} {j k : Nat} {f : Addr} {fn : Fn} (h : FnG P w K mg base κ gb j f fn) (l : j ≤ k) : FnG P w K mg base κ gb k f fn :=
  fun A outer s H us vs Q hr => h A outer s H us vs Q (hr.mono l)
theorem FnG.any {P : Program} {w : World} {K : PySem.W.Frag} {mg : Str → Option Value} {base : Heap} {κ : Cs} {gb : Bool} {k : Nat} {f : Addr} {fn : Fn} (h : FnG P w K mg base κ false k f fn) : FnG P w K mg base κ gb k f fn :=
  fun A outer s H us vs Q hr _ => h A outer s H us vs Q hr fun z => by cases z

section
variable {κ : Cs} {K : PySem.W.Frag} {F F' H H0 H' : Hp} {ρ : Ro} {σ : L2.St}
/-- arguments, one by one -/
inductive Args (κ : Cs) (F : Hp) (ρ : Ro) (σ : L2.St) (H0 H : Hp) : List Mode → List Pl → List V → List D → Ro → Prop
  | nil : Args κ F ρ σ H0 H [] [] [] [] []
  | val {ms : List Mode} {ps : List Pl} {vs : List V} {ds : List D} {ρ0 : Ro} {p : Pl} {v : V} {d : D} : Rep κ F d v → Args κ F ρ σ H0 H ms ps vs ds ρ0 → Args κ F ρ σ H0 H (.val :: ms) (p :: ps) (v :: vs) (d :: ds) (some (.val d) :: ρ0)
  | own {ms : List Mode} {ps : List Pl} {vs : List V} {ds : List D} {ρ0 : Ro} {i : Nat} {v : V} {l : List D} : ρ[i]? = some (some (.own l)) → σ[i]? = some (some v) → Args κ F ρ σ H0 H ms ps vs ds ρ0 → Args κ F ρ σ H0 H (.own :: ms) (.slot i :: ps) (v :: vs) (.lst l :: ds) (some (.own l) :: ρ0)
  | bor {ms : List Mode} {ps : List Pl} {vs : List V} {ds : List D} {ρ0 : Ro} {p : Pl} {v : V} {l : List D} : getQ ρ p = some (.lst l) → RepPw κ F ρ σ H0 H p v → Args κ F ρ σ H0 H ms ps vs ds ρ0 → Args κ F ρ σ H0 H (.bor :: ms) (p :: ps) (v :: vs) (.lst l :: ds) (some (.bor l) :: ρ0)
def valVs : List Mode → List V → List V
  | .val :: ms, v :: vs => v :: valVs ms vs
  | _ :: ms, _ :: vs => valVs ms vs
  | _, _ => []
theorem args_of : ∀ {ms : List Mode} {ps : List Pl} {vs : List V} {vals ds : List D} {us : List V}, RepPs κ F ρ σ H0 H ps vs → mergeA ρ ms ps vals = some ds →
    RepL κ F vals us → us = valVs ms vs → ∃ ρ0, Args κ F ρ σ H0 H ms ps vs ds ρ0
  | [], _, _, vals, ds, us, .nil, e, _, _ => by
    cases vals with
    | nil => cases e; exact ⟨_, .nil⟩
    | cons _ _ => cases e
  | [], _, _, vals, ds, us, .cons _ _, e, _, _ => by cases vals <;> cases e
  | m :: ms, _, _, vals, ds, us, .nil, e, _, _ => by cases m <;> cases vals <;> cases e
  | m :: ms, p :: ps, v :: vs, vals, ds, us, .cons a b, e, r, hu => by
    cases m with
    | val =>
      cases vals with
      | nil => cases e
      | cons d vals =>
        unfold mergeA at e
        cases q1 : mergeA ρ ms ps vals with
        | none => rw [q1] at e; cases e
        | some es =>
          rw [q1] at e
          cases e
          have hu : us = v :: valVs ms vs := hu
          subst hu
          rw [repL_cc] at r
          obtain ⟨ρ0, h⟩ := args_of b q1 r.2 rfl
          exact ⟨_, .val r.1 h⟩
    | own =>
      have hu : us = valVs ms vs := hu
      cases p with
      | tmp w => cases vals <;> cases e
      | slot i =>
        have e : (match (ρ[i]?).join with
          | some (.own l) => match mergeA ρ ms ps vals with
            | some r => some (.lst l :: r)
            | none => none
          | _ => none) = some ds := by cases vals <;> exact e
        cases q0 : (ρ[i]?).join with
        | none => rw [q0] at e; cases e
        | some w =>
          rw [q0] at e
          cases w with
          | val _ => cases e
          | bor _ => cases e
          | own l =>
            simp only at e
            cases q1 : mergeA ρ ms ps vals with
            | none => rw [q1] at e; cases e
            | some es =>
              rw [q1] at e
              cases e
              obtain ⟨ρ0, h⟩ := args_of b q1 r hu
              exact ⟨_, .own (slot_get q0) a h⟩
    | bor =>
      have hu : us = valVs ms vs := hu
      have e : (match getQ ρ p with
        | some (.lst l) => match mergeA ρ ms ps vals with
          | some r => some (.lst l :: r)
          | none => none
        | _ => none) = some ds := by cases vals <;> exact e
      cases q0 : getQ ρ p with
      | none => rw [q0] at e; cases e
      | some w =>
        rw [q0] at e
        cases w with
        | lst l =>
          simp only at e
          cases q1 : mergeA ρ ms ps vals with
          | none => rw [q1] at e; cases e
          | some es =>
            rw [q1] at e
            cases e
            obtain ⟨ρ0, h⟩ := args_of b q1 r hu
            exact ⟨_, .bor q0 a h⟩
        | _ => cases e
theorem valPs_rep : ∀ {ms : List Mode} {ps : List Pl} {vs : List V}, RepPs κ F ρ σ H0 H ps vs → RepPs κ F ρ σ H0 H (valPs ms ps) (valVs ms vs)
  | [], _, _, _ => .nil
  | .val :: ms, _, _, .nil => .nil
  | .own :: ms, _, _, .nil => .nil
  | .bor :: ms, _, _, .nil => .nil
  | .val :: ms, _, _, .cons a b => .cons a (valPs_rep b)
  | .own :: ms, _, _, .cons a b => valPs_rep (ms := ms) b
  | .bor :: ms, _, _, .cons a b => valPs_rep (ms := ms) b
theorem Args.args0 {ms : List Mode} {ps : List Pl} {vs : List V} {ds : List D} {ρ0 : Ro} (h : Args κ F ρ σ H0 H ms ps vs ds ρ0) : DT.args0 ms ds = some ρ0 := by
  induction h with
  | nil => rfl
  | val _ _ ih => unfold DT.args0; rw [ih]; rfl
  | own _ _ _ ih => unfold DT.args0; rw [ih]; rfl
  | bor _ _ _ ih => unfold DT.args0; rw [ih]; rfl
theorem Args.len {ms : List Mode} {ps : List Pl} {vs : List V} {ds : List D} {ρ0 : Ro} (h : Args κ F ρ σ H0 H ms ps vs ds ρ0) : ρ0.length = vs.length := by
  induction h with
  | nil => rfl
  | val _ _ ih => simp [ih]
  | own _ _ _ ih => simp [ih]
  | bor _ _ _ ih => simp [ih]
theorem Args.ownAt {ms : List Mode} {ps : List Pl} {vs : List V} {ds : List D} {ρ0 : Ro} (h : Args κ F ρ σ H0 H ms ps vs ds ρ0) :
    ∀ (j : Nat) (l : List D), ρ0[j]? = some (some (.own l)) → ∃ i v, i ∈ ownSlots ms ps ∧ ρ[i]? = some (some (.own l)) ∧ σ[i]? = some (some v) ∧ vs[j]? = some v := by
  induction h with
  | nil => intro j l h; simp at h
  | val _ _ ih =>
    intro j l h
    cases j with
    | zero => simp at h
    | succ j =>
      obtain ⟨i, v, h1, h2, h3, h4⟩ := ih j l (by simpa using h)
      exact ⟨i, v, h1, h2, h3, by simpa using h4⟩
  | own hi hv _ ih =>
    intro j l h
    cases j with
    | zero =>
      simp at h
      subst h
      exact ⟨_, _, by unfold ownSlots; exact List.mem_cons_self, hi, hv, rfl⟩
    | succ j =>
      obtain ⟨i, v, h1, h2, h3, h4⟩ := ih j l (by simpa using h)
      exact ⟨i, v, by unfold ownSlots; exact List.mem_cons_of_mem _ h1, h2, h3, by simpa using h4⟩
  | bor _ _ _ ih =>
    intro j l h
    cases j with
    | zero => simp at h
    | succ j =>
      obtain ⟨i, v, h1, h2, h3, h4⟩ := ih j l (by simpa using h)
      exact ⟨i, v, h1, h2, h3, by simpa using h4⟩
theorem nodupB_cons {i : Nat} {r : List Nat} (h : nodupB (i :: r) = true) : i ∉ r ∧ nodupB r = true := by
  unfold nodupB at h
  rw [Bool.and_eq_true] at h
  refine ⟨fun z => ?_, h.2⟩
  have h1 := h.1
  simp only [Bool.not_eq_true'] at h1
  rw [List.contains_iff_mem.mpr z] at h1
  cases h1
theorem Args.uno (r : Rel κ K F ρ σ H) {ms : List Mode} {ps : List Pl} {vs : List V} {ds : List D} {ρ0 : Ro} (h : Args κ F ρ σ H0 H ms ps vs ds ρ0) : nodupB (ownSlots ms ps) = true →
    ∀ (j k : Nat) (l m : List D) (a : Addr), ρ0[j]? = some (some (.own l)) → ρ0[k]? = some (some (.own m)) → vs[j]? = some (.ref a) → vs[k]? = some (.ref a) → j = k := by
  induction h with
  | nil => intro _ j k l m a h; simp at h
  | val _ _ ih =>
    intro nd j k l m a h1 h2 h3 h4
    cases j with
    | zero => simp at h1
    | succ j =>
      cases k with
      | zero => simp at h2
      | succ k => exact congrArg _ (ih nd j k l m a (by simpa using h1) (by simpa using h2) (by simpa using h3) (by simpa using h4))
  | @own ms ps vs ds ρ0 i v l' hi hv ha ih =>
    intro nd j k l m a h1 h2 h3 h4
    have nd' : nodupB (i :: ownSlots ms ps) = true := nd
    obtain ⟨n1, n2⟩ := nodupB_cons nd'
    have key : ∀ (k : Nat) (m : List D), ρ0[k]? = some (some (.own m)) → vs[k]? = some (.ref a) → v = .ref a → False := fun k m q1 q2 q3 => by
      obtain ⟨i2, v2, p1, p2, p3, p4⟩ := ha.ownAt k m q1
      rw [q2] at p4
      cases p4
      subst q3
      exact n1 (r.uno i i2 _ _ a hi p2 hv p3 ▸ p1)
    cases j with
    | zero =>
      cases k with
      | zero => rfl
      | succ k =>
        simp at h3
        exact (key k m (by simpa using h2) (by simpa using h4) h3).elim
    | succ j =>
      cases k with
      | zero =>
        simp at h4
        exact (key j l (by simpa using h1) (by simpa using h3) h4).elim
      | succ k => exact congrArg _ (ih n2 j k l m a (by simpa using h1) (by simpa using h2) (by simpa using h3) (by simpa using h4))
  | bor _ _ _ ih =>
    intro nd j k l m a h1 h2 h3 h4
    cases j with
    | zero => simp at h1
    | succ j =>
      cases k with
      | zero => simp at h2
      | succ k => exact congrArg _ (ih nd j k l m a (by simpa using h1) (by simpa using h2) (by simpa using h3) (by simpa using h4))
theorem Args.slot (r : Rel κ K F ρ σ H) {ms : List Mode} {ps : List Pl} {vs : List V} {ds : List D} {ρ0 : Ro} (h : Args κ F ρ σ H0 H ms ps vs ds ρ0) :
    ∀ (j : Nat) (w : W), ρ0[j]? = some (some w) → ∃ v, vs[j]? = some v ∧ RepS κ K F H w v := by
  induction h with
  | nil => intro j w h; simp at h
  | val hd _ ih =>
    intro j w h
    cases j with
    | zero => simp at h; subst h; exact ⟨_, rfl, hd⟩
    | succ j =>
      obtain ⟨v, h1, h2⟩ := ih j w (by simpa using h)
      exact ⟨v, by simpa using h1, h2⟩
  | own hi hv _ ih =>
    intro j w h
    cases j with
    | zero =>
      simp at h
      subst h
      obtain ⟨v', q1, q2⟩ := r.slot _ _ hi
      rw [hv] at q1
      cases q1
      exact ⟨_, rfl, q2⟩
    | succ j =>
      obtain ⟨v, h1, h2⟩ := ih j w (by simpa using h)
      exact ⟨v, by simpa using h1, h2⟩
  | bor hg hr _ ih =>
    intro j w h
    cases j with
    | zero =>
      simp at h
      subst h
      exact ⟨_, rfl, getQ_repw (K := K) r hr hg⟩
    | succ j =>
      obtain ⟨v, h1, h2⟩ := ih j w (by simpa using h)
      exact ⟨v, by simpa using h1, h2⟩
theorem Args.borAt {ms : List Mode} {ps : List Pl} {vs : List V} {ds : List D} {ρ0 : Ro} (h : Args κ F ρ σ H0 H ms ps vs ds ρ0) :
    ∀ (j : Nat) (l : List D), ρ0[j]? = some (some (.bor l)) → ∃ p v, (∀ i, p = .slot i → i ∈ borSlots ms ps) ∧ getQ ρ p = some (.lst l) ∧ RepPw κ F ρ σ H0 H p v ∧ vs[j]? = some v := by
  induction h with
  | nil => intro j l h; simp at h
  | @val ms ps vs ds ρ0 p v d _ _ ih =>
    intro j l h
    cases j with
    | zero => simp at h
    | succ j =>
      obtain ⟨p, v, h1, h2, h3, h4⟩ := ih j l (by simpa using h)
      exact ⟨p, v, h1, h2, h3, by simpa using h4⟩
  | own hi hv _ ih =>
    intro j l h
    cases j with
    | zero => simp at h
    | succ j =>
      obtain ⟨p, v, h1, h2, h3, h4⟩ := ih j l (by simpa using h)
      exact ⟨p, v, h1, h2, h3, by simpa using h4⟩
  | @bor ms ps vs ds ρ0 p v l' hg hr _ ih =>
    intro j l h
    cases j with
    | zero =>
      simp at h
      subst h
      exact ⟨p, v, fun i e => by subst e; unfold borSlots; exact List.mem_cons_self, hg, hr, rfl⟩
    | succ j =>
      obtain ⟨p', v', h1, h2, h3, h4⟩ := ih j l (by simpa using h)
      refine ⟨p', v', fun i e => ?_, h2, h3, by simpa using h4⟩
      have := h1 i e
      cases p with
      | slot k => unfold borSlots; exact List.mem_cons_of_mem _ this
      | tmp w => exact this
theorem map_some_get {vs : List V} {j : Nat} {v : V} : (vs.map some)[j]? = some (some v) ↔ vs[j]? = some v := by
  rw [List.getElem?_map]
  cases vs[j]? <;> simp
/-- what the callee sees -/
theorem Args.rel (r : Rel κ K F ρ σ H) {ms : List Mode} {ps : List Pl} {vs : List V} {ds : List D} {ρ0 : Ro} (h : Args κ F ρ σ H0 H ms ps vs ds ρ0) (ok : okSlots ms ps = true) : Rel κ K F ρ0 (vs.map some) H := by
  unfold okSlots at ok
  rw [Bool.and_eq_true] at ok
  have up : ∀ a, Own ρ0 (vs.map some) a → ∃ i l, i ∈ ownSlots ms ps ∧ ρ[i]? = some (some (.own l)) ∧ σ[i]? = some (some (.ref a)) := fun a ⟨j, l, h1, h2⟩ => by
    obtain ⟨i, v, q1, q2, q3, q4⟩ := h.ownAt j l h1
    rw [map_some_get] at h2
    rw [h2] at q4
    cases q4
    exact ⟨i, l, q1, q2, q3⟩
  refine ⟨r.le, by rw [List.length_map]; exact h.len, fun j w e => ?_, fun j k l m a h1 h2 h3 h4 => ?_, fun j l a h1 h2 ho => ?_⟩
  · obtain ⟨v, h1, h2⟩ := h.slot r j w e
    exact ⟨v, map_some_get.mpr h1, h2⟩
  · exact h.uno r ok.1 j k l m a h1 h2 (map_some_get.mp h3) (map_some_get.mp h4)
  · obtain ⟨i, l', q1, q2, q3⟩ := up a ho
    obtain ⟨p, v, b1, b2, b3, b4⟩ := h.borAt j l h1
    rw [map_some_get] at h2
    rw [h2] at b4
    cases b4
    have hO : Own ρ σ a := ⟨i, l', q2, q3⟩
    obtain ⟨us, hH, hF⟩ := r.own_at hO
    cases p with
    | slot k =>
      have b3 : σ[k]? = some (some (.ref a)) := b3
      have b2 : ((ρ[k]?).join).map contQ = some (.lst l) := b2
      cases e : (ρ[k]?).join with
      | none => rw [e] at b2; cases b2
      | some w =>
        rw [e] at b2
        cases w with
        | val d =>
          cases b2
          obtain ⟨v', z1, z2⟩ := r.slot k _ (slot_get e)
          rw [b3] at z1
          cases z1
          have z2 : Rep κ F (.lst l) (.ref a) := z2
          unfold Rep at z2
          obtain ⟨b, ws, e1, e2, _⟩ := z2
          cases e1
          rw [hF] at e2
          cases e2
        | own l2 =>
          have ek := r.uno k i l2 l' a (slot_get e) q2 b3 q3
          subst ek
          have hb := b1 k rfl
          have := List.all_eq_true.mp ok.2 k q1
          simp only [Bool.not_eq_true'] at this
          rw [List.contains_iff_mem.mpr hb] at this
          cases this
        | bor l2 =>
          cases b2
          exact r.apart k l a (slot_get e) b3 hO
    | tmp w =>
      cases w with
      | val d =>
        have b3 : Rep κ F d (.ref a) := b3
        cases b2
        unfold Rep at b3
        obtain ⟨b, ws, e1, e2, _⟩ := b3
        cases e1
        rw [hF] at e2
        cases e2
      | own l2 =>
        obtain ⟨b, ws, e1, _, _, _, e2, _⟩ := b3
        cases e1
        exact (e2 hO).elim
      | bor l2 => exact False.elim b3
theorem Args.own_up {ms : List Mode} {ps : List Pl} {vs : List V} {ds : List D} {ρ0 : Ro} (h : Args κ F ρ σ H0 H ms ps vs ds ρ0) {a : Addr} (ho : Own ρ0 (vs.map some) a) : ∃ i l, i ∈ ownSlots ms ps ∧ ρ[i]? = some (some (.own l)) ∧ σ[i]? = some (some (.ref a)) := by
  obtain ⟨j, l, h1, h2⟩ := ho
  obtain ⟨i, v, q1, q2, q3, q4⟩ := h.ownAt j l h1
  rw [map_some_get] at h2
  rw [h2] at q4
  cases q4
  exact ⟨i, l, q1, q2, q3⟩
theorem Args.own_dn {ms : List Mode} {ps : List Pl} {vs : List V} {ds : List D} {ρ0 : Ro} (h : Args κ F ρ σ H0 H ms ps vs ds ρ0) : ∀ i ∈ ownSlots ms ps, ∀ a, σ[i]? = some (some (.ref a)) → Own ρ0 (vs.map some) a := by
  have sh : ∀ {vs : List V} {ρ0 : Ro} {v : V} {w : Option W} {a : Addr}, Own ρ0 (vs.map some) a → Own (w :: ρ0) ((v :: vs).map some) a := fun ⟨j, l, h1, h2⟩ => ⟨j + 1, l, by simpa using h1, by simpa using h2⟩
  induction h with
  | nil => intro i hi; simp [ownSlots] at hi
  | val _ _ ih =>
    intro i hi a ha
    exact sh (ih i hi a ha)
  | @own ms ps vs ds ρ0 i v l h1 h2 _ ih =>
    intro k hk a ha
    have hk : k ∈ i :: ownSlots ms ps := hk
    rcases List.mem_cons.mp hk with e | hk
    · subst e
      rw [h2] at ha
      cases ha
      exact ⟨0, l, rfl, rfl⟩
    · exact sh (ih k hk a ha)
  | bor _ _ _ ih =>
    intro i hi a ha
    exact sh (ih i hi a ha)
/-- the slots behind the call -/
theorem putBack_at {ms : List Mode} {ps : List Pl} {vs : List V} {ds : List D} {ρ0 : Ro} (h : Args κ F ρ σ H0 H ms ps vs ds ρ0) : ∀ {outs : List (List D)}, OutsR κ F' H' ms vs outs →
    ∀ (k : Nat) (w : W), (putBack ρ ms ps outs)[k]? = some (some w) → (k ∉ ownSlots ms ps ∧ ρ[k]? = some (some w)) ∨
      ∃ l l0 a us, w = .own l ∧ k ∈ ownSlots ms ps ∧ ρ[k]? = some (some (.own l0)) ∧ σ[k]? = some (some (.ref a)) ∧ H' a = some (.lst us) ∧ F' a = none ∧ RepL κ F' l us := by
  induction h with
  | nil =>
    intro outs ho k w e
    have e : ρ[k]? = some (some w) := by cases outs <;> exact e
    exact .inl ⟨by simp [ownSlots], e⟩
  | @val ms ps vs ds ρ0 p v d _ _ ih => intro outs ho k w e; exact ih (outs := outs) (by cases outs <;> exact ho) k w (by cases outs <;> exact e)
  | @bor ms ps vs ds ρ0 p v l _ _ _ ih => intro outs ho k w e; exact ih (outs := outs) (by cases outs <;> exact ho) k w (by cases outs <;> exact e)
  | @own ms ps vs ds ρ0 i v l hi hv _ ih =>
    intro outs ho k w e
    cases outs with
    | nil => exact ho.elim
    | cons o outs =>
      obtain ⟨⟨a, us, e1, e2, e3, e4⟩, ho⟩ := ho
      subst e1
      have e : ((putBack ρ ms ps outs).set i (some (.own o)))[k]? = some (some w) := e
      by_cases hk : i = k
      · subst hk
        rw [List.getElem?_set] at e
        simp only [if_true] at e
        split at e
        · cases e
          exact .inr ⟨o, l, a, us, rfl, by unfold ownSlots; exact List.mem_cons_self, hi, hv, e2, e3, e4⟩
        · cases e
      · rw [List.getElem?_set_ne hk] at e
        rcases ih ho k w e with ⟨h1, h2⟩ | ⟨l', l0, b, ws, h1, h2, h3⟩
        · refine .inl ⟨?_, h2⟩
          unfold ownSlots
          intro z
          rcases List.mem_cons.mp z with z | z
          · exact hk z.symm
          · exact h1 z
        · exact .inr ⟨l', l0, b, ws, h1, by unfold ownSlots; exact List.mem_cons_of_mem _ h2, h3⟩
theorem putBack_len {ms : List Mode} {ps : List Pl} {vs : List V} {ds : List D} {ρ0 : Ro} (h : Args κ F ρ σ H0 H ms ps vs ds ρ0) : ∀ {outs : List (List D)}, (putBack ρ ms ps outs).length = ρ.length := by
  induction h with
  | nil => intro outs; cases outs <;> rfl
  | val _ _ ih => intro outs; have := ih (outs := outs); cases outs <;> exact this
  | bor _ _ _ ih => intro outs; have := ih (outs := outs); cases outs <;> exact this
  | @own ms ps vs ds ρ0 i v l _ _ _ ih =>
    intro outs
    cases outs with
    | nil => rfl
    | cons o outs =>
      show ((putBack ρ ms ps outs).set i (some (.own o))).length = _
      rw [List.length_set]
      exact ih
/-- behind a call -/
theorem after_step (r : Rel κ K F ρ σ H) {fn : Fn} {ps : List Pl} {vs : List V} {ds : List D} {ρ0 : Ro} (h : Args κ F ρ σ H0 H fn.modes ps vs ds ρ0) (ok : okSlots fn.modes ps = true) {w : W} {outs : List (List D)} {v : V}
    (A : After κ fn F ρ0 vs H w outs F' H' v) : Step κ K F ρ σ H F' (putBack ρ fn.modes ps outs) σ H' ∧ RepP κ F' (putBack ρ fn.modes ps outs) σ H H' (.tmp w) v := by
  have ownB : ∀ a, Own (putBack ρ fn.modes ps outs) σ a → Own ρ σ a := fun a ⟨k, l, h1, h2⟩ => by
    rcases putBack_at h A.outs k _ h1 with ⟨_, q⟩ | ⟨_, l0, b, us, _, _, q, q2, _⟩
    · exact ⟨k, l, q, h2⟩
    · exact ⟨k, l0, q, h2⟩
  have nO : ∀ k l a, k ∉ ownSlots fn.modes ps → ρ[k]? = some (some (.own l)) → σ[k]? = some (some (.ref a)) → ¬ Own ρ0 (vs.map some) a := fun k l a h1 h2 h3 ho => by
    obtain ⟨i, l', q1, q2, q3⟩ := h.own_up ho
    exact h1 (r.uno k i l l' a h2 q2 h3 q3 ▸ q1)
  have upO : ∀ a, Own ρ0 (vs.map some) a → Own ρ σ a := fun a ho => let ⟨i, l, _, q2, q3⟩ := h.own_up ho; ⟨i, l, q2, q3⟩
  have s : Step κ K F ρ σ H F' (putBack ρ fn.modes ps outs) σ H' := by
    refine ⟨⟨A.le, by rw [putBack_len h]; exact r.len, fun k w e => ?_, fun j k l m a h1 h2 h3 h4 => ?_, fun j l a h1 h2 ho => ?_⟩, A.ex, fun a o e => ?_, fun a o e n => A.keep a o e fun z => n (upO a z), A.dom, fun a z => .inl (ownB a z), fun j xs z => ?_⟩
    · rcases putBack_at h A.outs k w e with ⟨n, q⟩ | ⟨l, l0, a, us, e1, _, q, q2, q3, q4, q5⟩
      · obtain ⟨v', h1, h2⟩ := r.slot k w q
        refine ⟨v', h1, ?_⟩
        cases w with
        | val d => exact Rep.mono A.ex d v' h2
        | own l =>
          obtain ⟨a, us, e1, e2, e3, e4⟩ := h2
          subst e1
          have na := nO k l a n q h1
          refine ⟨a, us, rfl, A.keep a _ e2 na, ?_, RepL.mono A.ex _ _ e4⟩
          cases z : F' a with
          | none => rfl
          | some o =>
            rcases A.new a o z with z | z
            · rw [e3] at z; cases z
            · rw [e2] at z; cases z
        | bor l =>
          obtain ⟨a, us, e1, e2, e4⟩ := h2
          subst e1
          by_cases na : Own ρ0 (vs.map some) a
          · obtain ⟨ws, z1, z2⟩ := (r.apart k l a q h1 (upO a na)).sq (H := H')
            exact ⟨a, ws, rfl, z1, RepL.mono A.ex _ _ z2⟩
          refine ⟨a, us, rfl, ?_, RepL.mono A.ex _ _ e4⟩
          rcases e2 with (e2 | ⟨o, e2⟩) | e2
          · exact .inl (.inl (A.keep a _ e2 na))
          · exact .inl (.inr ⟨o, A.keep a _ e2 na⟩)
          · exact .inr e2
      · subst e1
        exact ⟨.ref a, q2, a, us, rfl, q3, q4, q5⟩
    · have f : ∀ {k : Nat} {l : List D}, (putBack ρ fn.modes ps outs)[k]? = some (some (.own l)) → ∃ l0, ρ[k]? = some (some (.own l0)) := fun {k l} z => by
        rcases putBack_at h A.outs k _ z with ⟨_, q⟩ | ⟨_, l0, b, us, _, _, q, _⟩
        · exact ⟨l, q⟩
        · exact ⟨l0, q⟩
      obtain ⟨l1, f1⟩ := f h1
      obtain ⟨l2, f2⟩ := f h2
      exact r.uno j k l1 l2 a f1 f2 h3 h4
    · rcases putBack_at h A.outs j _ h1 with ⟨_, q⟩ | ⟨_, l0, b, us, e1, _⟩
      · exact (r.apart j l a q h2 (ownB a ho)).mono A.ex
      · cases e1
    · rcases A.new a o e with z | z
      · exact .inl z
      · exact .inr (.inl z)
    · rcases putBack_at h A.outs j _ z with ⟨_, q⟩ | ⟨_, l0, b, us, e1, _⟩
      · exact ⟨q, rfl⟩
      · cases e1
  refine ⟨s, ?_⟩
  have hr := A.res
  cases w with
  | val d => exact hr
  | own l =>
    obtain ⟨a, us, e1, e2, e3, e4, e5⟩ := hr
    refine ⟨a, us, e1, e2, e3, e4, fun z => ?_, e5⟩
    obtain ⟨ws, z, _⟩ := r.own_at (ownB a z)
    rw [e2] at z
    cases z
  | bor l => exact False.elim hr
/-- the whole: arguments are there, the callee's promise is asked -/
theorem call_ok {H1 F1 : Hp} {ρ1 ρ2 : Ro} (s : Step κ K F ρ σ H F1 ρ1 σ H1) {fn : Fn} {ps : List Pl} {vs : List V} {vals ds : List D} {w : W} {outs : List (List D)} {Q : VK} (hp : RepPs κ F1 ρ1 σ H H1 ps vs) (e1 : toVals ρ1 (valPs fn.modes ps) = some (vals, ρ2))
    (e2 : mergeA ρ2 fn.modes ps vals = some ds) (ok : okSlots fn.modes ps = true) (e3 : fn.run ds = some (w, outs)) (Y : Yld κ K F ρ σ H (putBack ρ2 fn.modes ps outs) (.tmp w) Q) : SpF κ K fn vs H1 Q := by
  obtain ⟨F2, s2, hv, hk⟩ := toVals_step s (valPs_rep (ms := fn.modes) hp) e1
  have hp2 := hp.imp hk
  obtain ⟨ρ0, A⟩ := args_of hp2 e2 hv rfl
  refine ⟨F2, ds, ρ0, w, outs, A.args0, A.rel s2.rel ok, e3, fun F' H' v af => ?_⟩
  obtain ⟨s3, r3⟩ := after_step s2.rel A ok af
  exact Y F' H' v (s2.trans s3) (r3.early fun a z => s2.none_back z)
/-- all arguments are values -/
theorem allV_val : ∀ {ms : List Mode} {ps : List Pl}, (∀ m ∈ ms, m = .val) → ms.length = ps.length → valPs ms ps = ps
  | [], [], _, _ => rfl
  | [], _ :: _, _, h => by simp at h
  | _ :: _, [], _, h => by simp at h
  | m :: ms, p :: ps, hm, h => by
    have e := hm m List.mem_cons_self
    subst e
    show p :: valPs ms ps = p :: ps
    rw [allV_val (fun m z => hm m (List.mem_cons_of_mem _ z)) (by simpa using h)]
theorem allV_merge (ρ : Ro) : ∀ {ms : List Mode} {ps : List Pl} {ds : List D}, (∀ m ∈ ms, m = .val) → ms.length = ps.length → ps.length = ds.length → mergeA ρ ms ps ds = some ds
  | [], [], [], _, _, _ => rfl
  | [], [], _ :: _, _, _, h => by simp at h
  | [], _ :: _, _, _, h, _ => by simp at h
  | _ :: _, [], _, _, h, _ => by simp at h
  | _ :: _, _ :: _, [], _, _, h => by simp at h
  | m :: ms, p :: ps, d :: ds, hm, h, h2 => by
    have e := hm m List.mem_cons_self
    subst e
    unfold mergeA
    rw [allV_merge ρ (fun m z => hm m (List.mem_cons_of_mem _ z)) (by simpa using h) (by simpa using h2)]
theorem allV_own : ∀ {ms : List Mode} {ps : List Pl}, (∀ m ∈ ms, m = .val) → ownSlots ms ps = []
  | [], _, _ => rfl
  | m :: ms, [], hm => by
    have e := hm m List.mem_cons_self
    subst e
    rfl
  | m :: ms, p :: ps, hm => by
    have e := hm m List.mem_cons_self
    subst e
    show ownSlots ms ps = []
    exact allV_own fun m z => hm m (List.mem_cons_of_mem _ z)
theorem allV_back (ρ : Ro) : ∀ {ms : List Mode} {ps : List Pl}, (∀ m ∈ ms, m = .val) → putBack ρ ms ps [] = ρ
  | [], _, _ => rfl
  | m :: ms, [], hm => by
    have e := hm m List.mem_cons_self
    subst e
    rfl
  | m :: ms, p :: ps, hm => by
    have e := hm m List.mem_cons_self
    subst e
    show putBack ρ ms ps [] = ρ
    exact allV_back ρ fun m z => hm m (List.mem_cons_of_mem _ z)
theorem toVals_len : ∀ {ρ ρ2 : Ro} {ps : List Pl} {ds : List D}, toVals ρ ps = some (ds, ρ2) → ps.length = ds.length
  | ρ, ρ2, [], ds, e => by cases e; rfl
  | ρ, ρ2, p :: ps, ds, e => by
    unfold toVals at e
    cases q : toVal ρ p with
    | none => rw [q] at e; cases e
    | some r =>
      obtain ⟨d, ρ3⟩ := r
      rw [q] at e
      simp only at e
      cases q2 : toVals ρ3 ps with
      | none => rw [q2] at e; cases e
      | some r =>
        obtain ⟨es, ρ4⟩ := r
        rw [q2] at e
        cases e
        simp [toVals_len q2]
/-- a receiver and values behind it -/
theorem callm_ok {H1 F1 : Hp} {ρ1 ρ2 : Ro} (s : Step κ K F ρ σ H F1 ρ1 σ H1) {fn : Fn} {d : D} {x : V} {ps : List Pl} {vs : List V} {ds : List D} {w : W} {Q : VK} (hd : Rep κ F1 d x) (hp : RepPs κ F1 ρ1 σ H H1 ps vs) (e1 : toVals ρ1 ps = some (ds, ρ2))
    (hm : ∀ m ∈ fn.modes, m = .val) (hl : fn.modes.length = ps.length + 1) (e3 : fn.run (d :: ds) = some (w, [])) (Y : Yld κ K F ρ σ H ρ2 (.tmp w) Q) : SpF κ K fn (x :: vs) H1 Q := by
  have hl' : fn.modes.length = (Pl.tmp (.val d) :: ps).length := hl
  have e1' : toVals ρ1 (Pl.tmp (.val d) :: ps) = some (d :: ds, ρ2) := by
    unfold toVals
    show (match toVals ρ1 ps with | some (ds, ρ2) => some (d :: ds, ρ2) | none => none) = _
    rw [e1]
  refine call_ok (ps := Pl.tmp (.val d) :: ps) (vals := d :: ds) (ds := d :: ds) (ρ2 := ρ2) (outs := []) s (.cons hd hp) (by rw [allV_val hm hl']; exact e1') (allV_merge ρ2 hm hl' (toVals_len e1')) ?_ e3 (by rw [allV_back ρ2 hm]; exact Y)
  unfold okSlots
  rw [allV_own hm]
  rfl
end
end DT

end
section
/-! DT: the form against the text. -/
namespace DT
open PySem PySem.Spec PyProof.Rows L2

/-- how a def is reached: by its name, as a property, a method, by o[i], by len(o), as a classmethod, by the class's call, by the object's call -/
inductive Kd where
  | non | def_ (n : Str) | prop (c p : Str) | meth (c m : Str) | item (c : Str) | len (c : Str) | clsm (c m : Str) | mk (c : Str) | callo (c : Str) | opadd (c : Str)
/-- what is known of names: the defs; whether nothing guards; the classes' fields; written dicts -/
structure Nm where
  kd : Nat → Kd
  gb : Bool := false
  fl : Str → List Str := fun _ => []
  kt : Str → List (Str × Int) := fun _ => []
  ic : Str → Bool := fun _ => false
def isVis (sc : Scope) (x : Str) : Bool := match sc.names.lookup x with
  | some .local => true | some .cell => true | some .free => true | _ => false
def isLoc (sc : Scope) (fp : Str → Bool) (x : Str) : Bool := match sc.names.lookup x with
  | some .local => true | some .cell => fp x | _ => false
def isGl (sc : Scope) (x : Str) : Bool := match sc.names.lookup x with
  | some .globalImplicit => true | _ => false
def okName (x : Str) : Bool := !(x == ("__debug__" : Str)) && !(x == ("__classdict__" : Str))
def notStar : Expr → Bool
  | .Starred _ _ => false | _ => true
def notComp : Expr → Bool
  | .ListComp .. => false | .SetComp .. => false | .DictComp .. => false | _ => true
def notTuple : Expr → Bool
  | .Tuple .. => false | _ => true
def notSet : Expr → Bool
  | .Set .. => false | _ => true
def notSlice : Expr → Bool
  | .Slice .. => false | _ => true
def notCall : Expr → Bool
  | .Call (.Name x _) _ _ _ => !(x == ("super" : Str)) | _ => true
def plainTest : Expr → Bool
  | .UnaryOp .. => false | .BoolOp .. => false | .IfExp .. => false | .Compare .. => false | _ => true
def constD : Const → D → Bool
  | .none, .non => true
  | .bool b, .bl c => b == c
  | .int i, .int j => decide (i = j)
  | .str x, .str y => decide (x = y)
  | _, _ => false
def biName : Bi → Str
  | .len => "len" | .tuple => "tuple" | .list => "list" | .all => "all" | .any => "any" | .str => "str" | .repr => "repr" | .max2 => "max" | .min2 => "min"
  | .kget _ _ => "get" | .listRange => "list" | .tupleRange => "tuple" | .lenSet => "len" | .sortedSet => "sorted" | .isInt => "isinstance" | .isBool => "isinstance" | .isTuple => "isinstance" | .isStr => "isinstance" | .isIns _ => "isinstance"
  | .dictOf => "dict" | .sorted => "sorted" | .min => "min" | .listZip => "list"
def bmName : Bm → Str
  | .join => "join" | .split => "split" | .startswith => "startswith" | .endswith => "endswith" | .get => "get" | .index => "index" | .count => "count" | .text => "text"
def bltNames : List Str := ["len", "tuple", "list", "all", "any", "str", "repr", "max", "min", "range", "zip", "enumerate", "set", "sorted", "isinstance", "dict", "int", "bool"]

mutual
def gSlots : G → List Nat
  | .name i => [i]
  | .tup gs => gsSlots gs
def gsSlots : List G → List Nat
  | [] => []
  | g :: gs => gSlots g ++ gsSlots gs
end
section
variable (N : List Str) (nm : Nm)
mutual
def agG (sc : Scope) (fp : Str → Bool) : G → Expr → Bool
  | .name i, x => match x with
    | .Name n _ => decide (N[i]? = some n) && isLoc sc fp n
    | _ => false
  | .tup gs, x => match x with
    | .Tuple xs _ _ => agGs sc fp gs xs && decide (gs.length = xs.length)
    | _ => false
def agGs (sc : Scope) (fp : Str → Bool) : List G → List Expr → Bool
  | [], [] => true
  | g :: gs, x :: xs => agG sc fp g x && notStar x && agGs sc fp gs xs
  | _, _ => false
end
def ownL (own : List Nat) : List (Str × Nat) := own.map fun i => ((N[i]?).getD Str.empty, i)
mutual
def agE (sc : Scope) (fp : Str → Bool) (t : Bool) : E → Expr → Bool
  | .nil, _ => false
  | .var i, x => match x with
    | .Name n _ => decide (N[i]? = some n) && isVis sc n && okName n
    | _ => false
  | .cst d, x => match x with
    | .Constant c _ _ => constD c d
    | _ => false
  | .glob n, x => match x with
    | .Name m _ => decide (n = m) && isGl sc m && okName m
    | _ => false
  | .tup es, x => match x with
    | .Tuple xs _ _ => agEs sc fp es xs
    | _ => false
  | .lst es, x => match x with
    | .List xs _ => agEs sc fp es xs
    | _ => false
  | .star _, _ => false
  | .bin o a b, x => match x with
    | .BinOp p op q _ => decide (op = opOf o) && agE sc fp false a p && agE sc fp false b q
    | _ => false
  | .neg a, x => match x with
    | .UnaryOp .USub p _ => !t && agE sc fp false a p
    | _ => false
  | .cmp o a b, x => match x with
    | .Compare p [op] [q] _ => decide (op = cmOf o) && agE sc fp false a p && agE sc fp false b q && notSet q
    | _ => false
  | .chain o o2 a b c, x => match x with
    | .Compare p [op, op2] [q, r] _ => decide (op = cmOf o) && decide (op2 = cmOf o2) && agE sc fp false a p && agE sc fp false b q && agE sc fp false c r && notSet r
    | _ => false
  | .and a b, x => match x with
    | .BoolOp .And (p :: q :: r) pos => agE sc fp t a p && (match r with
      | [] => agE sc fp t b q
      | s :: r => agE sc fp t b (.BoolOp .And (q :: s :: r) pos))
    | _ => false
  | .or a b, x => match x with
    | .BoolOp .Or (p :: q :: r) pos => agE sc fp t a p && (match r with
      | [] => agE sc fp t b q
      | s :: r => agE sc fp t b (.BoolOp .Or (q :: s :: r) pos))
    | _ => false
  | .not a, x => match x with
    | .UnaryOp .Not p _ => agE sc fp t a p
    | _ => false
  | .ife c a b, x => match x with
    | .IfExp p q r _ => !t && agE sc fp true c p && agE sc fp false a q && agE sc fp false b r
    | _ => false
  | .ix a b, x => match x with
    | .Subscript p q _ => agE sc fp false a p && agE sc fp false b q && notSlice q
    | _ => false
  | .sl a lo hi, x => match x with
    | .Subscript p (.Slice l h none _) _ => agE sc fp false a p && agO sc fp lo l && agO sc fp hi h
    | _ => false
  | .rev a, x => match x with
    | .Subscript p (.Slice none none (some (.UnaryOp .USub (.Constant (.int k) _ _) _)) _) _ => decide (k = 1) && agE sc fp false a p
    | _ => false
  | .fld c f a, x => match x with
    | .Attribute y n _ => decide ((nm.fl c)[f]? = some n) && agE sc fp false a y && notCall y
    | _ => false
  | .call f es, x => match x with
    | .Call (.Name n _) (y :: ys) [] _ => (match nm.kd f with
      | .def_ n' => decide (n = n') && isGl sc n && okName n && agEs sc fp es (y :: ys) && (y :: ys).all notStar
      | _ => false)
    | _ => false
  | .callm f e es, x => match nm.kd f with
    | .prop c p => (match x with
      | .Attribute y n _ => decide (n = p) && agE sc fp false e y && notCall y && es.isEmpty
      | _ => false)
    | .meth c m => (match x with
      | .Call (.Attribute (.Name n np) n' apos) zs [] pos => decide (n' = m) && agE sc fp false e (.Name n np) && agEs sc fp es zs && zs.all notStar && (apos.endLine == pos.line) && decide (zs.length < 25) && decide (es.isEmpty = zs.isEmpty)
      | _ => false)
    | .item c => (match x with
      | .Subscript y z _ => agE sc fp false e y && agEs sc fp es [z] && notSlice z && notStar z
      | _ => false)
    | .len c => (match x with
      | .Call (.Name n _) [y] [] _ => decide (n = "len") && isGl sc n && agE sc fp false e y && notStar y && es.isEmpty
      | _ => false)
    | .clsm c m => (match x with
      | .Call (.Attribute (.Name n np) n' apos) (z :: zs) [] pos => decide (n' = m) && agE sc fp false e (.Name n np) && agEs sc fp es (z :: zs) && (z :: zs).all notStar && (apos.endLine == pos.line) && decide (zs.length < 24)
      | _ => false)
    | .mk c => (match x with
      | .Call (.Name n np) (z :: zs) [] _ => agE sc fp false e (.Name n np) && agEs sc fp es (z :: zs) && notStar z
      | _ => false)
    | .callo c => (match x with
      | .Call (.Name n np) (z :: zs) [] _ => agE sc fp false e (.Name n np) && agEs sc fp es (z :: zs) && (z :: zs).all notStar
      | _ => false)
    | .opadd c => (match x with
      | .BinOp y .Add z _ => agE sc fp false e y && agEs sc fp es [z] && notStar z
      | _ => false)
    | _ => false
  | .bi b es, x => match x with
    | .Call (.Name n _) (y :: ys) [] _ => (match b with
      | .listRange => decide (n = "list") && isGl sc "range" && (match ys, y with
        | [], .Call (.Name m _) [z] [] _ => decide (m = "range") && agEs sc fp es [z] && notStar z
        | _, _ => false)
      | .tupleRange => decide (n = "tuple") && isGl sc "range" && (match ys, y with
        | [], .Call (.Name m _) [z] [] _ => decide (m = "range") && agEs sc fp es [z] && notStar z
        | _, _ => false)
      | .isInt => decide (n = "isinstance") && isGl sc "int" && (match ys with
        | [.Name m _] => decide (m = "int") && agEs sc fp es [y] && notStar y
        | _ => false)
      | .isBool => decide (n = "isinstance") && isGl sc "bool" && (match ys with
        | [.Name m _] => decide (m = "bool") && agEs sc fp es [y] && notStar y
        | _ => false)
      | .isStr => decide (n = "isinstance") && isGl sc "str" && (match ys with
        | [.Name m _] => decide (m = "str") && agEs sc fp es [y] && notStar y
        | _ => false)
      | .isTuple => decide (n = "isinstance") && isGl sc "tuple" && (match ys with
        | [.Name m _] => decide (m = "tuple") && agEs sc fp es [y] && notStar y
        | _ => false)
      | .isIns c => decide (n = "isinstance") && isGl sc c && okName c && nm.ic c && (match ys with
        | [.Name m _] => decide (m = c) && agEs sc fp es [y] && notStar y
        | _ => false)
      | .lenSet => decide (n = "len") && isGl sc "set" && (match ys, y with
        | [], .Call (.Name m _) [z] [] _ => decide (m = "set") && agEs sc fp es [z] && notStar z
        | _, _ => false)
      | .dictOf => decide (n = "dict") && agEs sc fp es (y :: ys) && (y :: ys).all notStar
      | .len => decide (n = "len") && agEs sc fp es (y :: ys) && (y :: ys).all notStar
      | .tuple => decide (n = "tuple") && agEs sc fp es (y :: ys) && (y :: ys).all notStar
      | .list => decide (n = "list") && agEs sc fp es (y :: ys) && (y :: ys).all notStar
      | .all => decide (n = "all") && agEs sc fp es (y :: ys) && (y :: ys).all notStar
      | .any => decide (n = "any") && agEs sc fp es (y :: ys) && (y :: ys).all notStar
      | .str => decide (n = "str") && agEs sc fp es (y :: ys) && (y :: ys).all notStar
      | .repr => nm.gb && decide (n = "repr") && agEs sc fp es (y :: ys) && (y :: ys).all notStar
      | .max2 => decide (n = "max") && agEs sc fp es (y :: ys) && (y :: ys).all notStar
      | .min2 => decide (n = "min") && agEs sc fp es (y :: ys) && (y :: ys).all notStar
      | .min => decide (n = "min") && agEs sc fp es (y :: ys) && (y :: ys).all notStar
      | _ => false) && isGl sc n
    | .Call (.Attribute (.Name n _) n' apos) [y, z] [] pos => (match b with
      | .kget c t => decide (n = c) && decide (n' = "get") && isGl sc c && okName c && decide (nm.kt c = t) && !t.isEmpty && agEs sc fp es [y, z] && notStar y && notStar z && (apos.endLine == pos.line)
      | _ => false)
    | _ => false
  | .bm m o es, x => match x with
    | .Call (.Attribute p n apos) [y, z] [] pos => (match m with
      | .get => true
      | _ => false) && decide (n = "get") && agE sc fp false o p && agEs sc fp es [y, z] && notStar y && notStar z && notCall p && (apos.endLine == pos.line)
    | .Call (.Attribute p n apos) (y :: ys) [] pos => (match m with
      | .join => true | .split => true | .startswith => true | .endswith => true | _ => false) && decide (n = bmName m) && agE sc fp false o p && agEs sc fp es (y :: ys) && (match ys with
      | [] => true
      | _ => false) && notStar y && notCall p && (apos.endLine == pos.line)
    | _ => false
  | .signs e, x => match x with
    | .Call (.Name n _) [y] [] _ => decide (n = "list") && isGl sc n && agE sc fp false e y && notStar y
    | _ => false
  | .popAt i e, x => match x with
    | .Call (.Attribute (.Name n _) m apos) [y] [] pos => decide (N[i]? = some n) && isVis sc n && okName n && decide (m = "pop") && agE sc fp false e y && notStar y && (apos.endLine == pos.line)
    | _ => false
  | .comp elt g it c own, x => match x with
    | .ListComp y [⟨tg, iter, ifs, a⟩] scope _ => decide (a = 0) && agI sc fp it iter tg && notSet iter && blkC N sc scope (ownL N own) && agG N (relS scope sc) (fun n => scope.names.lookup n == some .cell) g tg && (gSlots g).all (fun i => own.contains i) &&
      (match ifs with
        | [] => (match c with
          | .nil => true
          | _ => false)
        | [z] => agE (relS scope sc) (fun n => scope.names.lookup n == some .cell) true c z
        | _ => false) && agE (relS scope sc) (fun n => scope.names.lookup n == some .cell) false elt y
    | _ => false
  | .comp2 elt g it c own g1 it1 c1 own1, x => match x with
    | .ListComp y [⟨tg, iter, ifs, a⟩, ⟨tg1, iter1, ifs1, a1⟩] scope _ => decide (a = 0) && decide (a1 = 0) && agI sc fp it iter tg && notSet iter && notSet iter1 && blkC N sc scope (ownL N own) && agG N (relS scope sc) (fun n => scope.names.lookup n == some .cell) g tg && (gSlots g).all (fun i => own.contains i) &&
      agG N (relS scope sc) (fun n => scope.names.lookup n == some .cell) g1 tg1 && (gSlots g1).all (fun i => own1.contains i) && own1.all (fun i => own.contains i) && agI (relS scope sc) (fun n => scope.names.lookup n == some .cell) it1 iter1 tg1 &&
      (match ifs with
        | [] => (match c with
          | .nil => true
          | _ => false)
        | [z] => agE (relS scope sc) (fun n => scope.names.lookup n == some .cell) true c z
        | _ => false) &&
      (match ifs1 with
        | [] => (match c1 with
          | .nil => true
          | _ => false)
        | [z] => agE (relS scope sc) (fun n => scope.names.lookup n == some .cell) true c1 z
        | _ => false) && agE (relS scope sc) (fun n => scope.names.lookup n == some .cell) false elt y
    | _ => false
  | .fstr es, x => match x with
    | .JoinedStr (p :: q :: r) _ => agFs sc fp es (p :: q :: r)
    | _ => false
  | .seq _, _ => false
  | .rng1 _, _ => false
  | .rng2 _ _, _ => false
  | .zip _ _, _ => false
  | .enum _, _ => false
def agEs (sc : Scope) (fp : Str → Bool) : List E → List Expr → Bool
  | [], [] => true
  | .star e :: es, .Starred x _ :: xs => agE sc fp false e x && agEs sc fp es xs
  | e :: es, x :: xs => agE sc fp false e x && notStar x && agEs sc fp es xs
  | _, _ => false
/-- the parts of an f-string -/
def agFs (sc : Scope) (fp : Str → Bool) : List E → List Expr → Bool
  | [], [] => true
  | e :: es, .FormattedValue x k none _ :: xs => decide (k = -1) && agE sc fp false e x && agFs sc fp es xs
  | .cst (.str y) :: es, .Constant (.str z) _ _ :: xs => decide (y = z) && agFs sc fp es xs
  | _, _ => false
def agO (sc : Scope) (fp : Str → Bool) : E → Option Expr → Bool
  | .nil, none => true
  | .seq e, some x => agE sc fp false e x
  | _, _ => false
/-- what is walked, with its target -/
def agI (sc : Scope) (fp : Str → Bool) : E → Expr → Expr → Bool
  | .seq e, x, _ => agE sc fp false e x
  | .rng1 a, x, _ => match x with
    | .Call (.Name n _) [y] [] _ => decide (n = "range") && isGl sc n && agE sc fp false a y && notStar y
    | _ => false
  | .rng2 a b, x, _ => match x with
    | .Call (.Name n _) [y, z] [] _ => decide (n = "range") && isGl sc n && agE sc fp false a y && agE sc fp false b z && notStar y && notStar z
    | _ => false
  | .zip a b, x, tg => match x, tg with
    | .Call (.Name n _) [y, z] [] _, .Tuple _ _ _ => decide (n = "zip") && isGl sc n && agE sc fp false a y && agE sc fp false b z && notStar y && notStar z
    | _, _ => false
  | .enum a, x, tg => match x, tg with
    | .Call (.Name n _) [y] [] _, .Tuple _ _ _ => decide (n = "enumerate") && isGl sc n && agE sc fp false a y && notStar y
    | _, _ => false
  | _, _, _ => false
end
end

/-! ### what the look lets through -/
theorem star_no {e : Expr} (h : notStar e = true) (es : List Expr) (env : PySem.Env) : starEach (e :: es) env = (false, eval e env) :: starEach es env := by
  cases e <;> first
    | rfl
    | cases h
theorem star_all : ∀ {es : List Expr} (h : es.all notStar = true) (env : PySem.Env) (pos : Pos), (backTo pos (starEach es env)).any (·.1) = false := by
  intro es h env pos
  cases es with
  | nil => rfl
  | cons e es =>
    rw [List.all_cons, Bool.and_eq_true] at h
    rw [star_no h.1]
    have key : ∀ (es : List Expr), es.all notStar = true → (starEach es env).any (·.1) = false := by
      intro es
      induction es with
      | nil => intro _; rfl
      | cons e es ih =>
        intro h
        rw [List.all_cons, Bool.and_eq_true] at h
        rw [star_no h.1, List.any_cons, ih h.2]
        rfl
    have k := key es h.2
    unfold backTo
    simp only [List.any_map, List.any_cons]
    first
      | exact k
      | simpa using k
theorem swaps_no {e : Expr} (h : notComp e = true) (t : Option Expr) (l : Nat) (env : PySem.Env) : swapsWith e t l env = pure false := by
  cases e <;> first
    | rfl
    | cases h
theorem base_no {o : Expr} (h : notCall o = true) (n : Str) (env : PySem.Env) (w : Sem Value) : attributeBase o n env w = w := by
  unfold attributeBase
  split
  · rename_i id _ _
    have h : (!(id == ("super" : Str))) = true := h
    have h' : (id != ("super" : Str)) = true := h
    rw [h']
    rfl
  · rfl
theorem set_no {e : Expr} (h : notSet e = true) (env : PySem.Env) (x : Value) : foldedSetIterable e env x = pure x := by
  cases e <;> first
    | rfl
    | cases h
theorem mark_no {e : Expr} (h : notSet e = true) (op : CmpOp) : behindInMarks op e = false := by
  cases e <;> first
    | rfl
    | cases h
theorem ix_no {e : Expr} (h : notSlice e = true) : PlainIx e := by
  intro o i
  cases e <;> first
    | rfl
    | cases h
theorem test_no {e : Expr} (h : plainTest e = true) (env : PySem.Env) : ∀ whole, isTrue e env whole = (do let v ← whole; standAt e.pos; holding [v] (truthy v)) := by
  intro w
  cases e <;> first
    | rfl
    | cases h
theorem swapped_no {e : Expr} (h : notTuple e = true) (ts : List Expr) (env : PySem.Env) : swappedStores ts e env = pure none := by
  unfold swappedStores
  split
  · rename_i q
    split at q <;> first
      | cases h
      | cases q
  · rfl
end DT

end
section
/-! DT: contexts, readings, what is walked. -/
namespace DT
open PySem PySem.Spec PyProof.Rows L2

/-- a def with a receiver: all its parameters are values, the first one is an instance of c -/
structure MethF (fn : Fn) (c : Str) : Prop where
  val : ∀ m ∈ fn.modes, m = .val
  len : ∀ ds r, fn.run ds = some r → ds.length = fn.modes.length
  recv : ∀ d ds r, fn.run (d :: ds) = some r → ∃ fs, d = .ins c fs
/-- .. is the class c -/
structure ClsF (fn : Fn) (c : Str) : Prop where
  val : ∀ m ∈ fn.modes, m = .val
  len : ∀ ds r, fn.run ds = some r → ds.length = fn.modes.length
  recv : ∀ d ds r, fn.run (d :: ds) = some r → d = .cls c
/-- the class's call with n values -/
def mkFn (fn : Fn) (c : Str) (n : Nat) : Fn := ⟨List.replicate n .val, fun ds => if ds.length = n then fn.run (.cls c :: ds) else none⟩
/-- C has an own def for + -/
structure AddO (K : PySem.W.Frag) (C g : Addr) : Prop where
  at_ : PySem.W.findIn K (.ref C) "__add__" = some (some (.ref g))
  fn : PySem.W.isFn K (.ref g) = true
  first : PySem.W.selfFirst K C = true
/-- how a def stands in the module, by the way it is reached -/
def KdOk (κ : Cs) (nm : Nm) (L : Nat) (P : Program) (w : World) (K : PySem.W.Frag) (mg : Str → Option Value) (base : Heap) : Kd → Fn → Prop
  | .non, _ => False
  | .def_ n, fn => ∃ a, mg n = some (.ref a) ∧ PySem.W.keepIn K (.ref a) = true ∧ FnG P w K mg base κ nm.gb L a fn
  | .prop c p, fn => ∃ C pa g, κ.ad c = some C ∧ Cls K C ∧ PropOf K C p pa g ∧ MethF fn c ∧ fn.modes.length = 1 ∧ FnG P w K mg base κ nm.gb L g fn
  | .meth c m, fn => ∃ C g, κ.ad c = some C ∧ Cls K C ∧ Meth K C m g ∧ m ∉ κ.fl c ∧ MethF fn c ∧ FnG P w K mg base κ nm.gb L g fn
  | .item c, fn => ∃ C g, κ.ad c = some C ∧ PySem.W.findIn K (.ref C) "__getitem__" = some (some (.ref g)) ∧ PySem.W.fnIn K g = true ∧ PySem.W.isFn K (.ref g) = true ∧ MethF fn c ∧ FnG P w K mg base κ nm.gb L g fn
  | .len c, fn => ∃ C g, κ.ad c = some C ∧ PySem.W.findIn K (.ref C) "__len__" = some (some (.ref g)) ∧ PySem.W.isFn K (.ref g) = true ∧ MethF fn c ∧ (∀ d r, fn.run [d] = some r → ∃ n : Int, r = (.val (.int n), []) ∧ 0 ≤ n ∧ n < 2 ^ 63) ∧ FnG P w K mg base κ nm.gb L g fn
  | .clsm c m, fn => ∃ C mc p g, κ.ad c = some C ∧ ClX.CRead K C mc ∧ ClX.CMet K C mc m p g ∧ ClsF fn c ∧ FnG P w K mg base κ nm.gb L g fn
  | .mk c, fn => ∃ C, κ.ad c = some C ∧ PySem.W.keepIn K (.ref C) = true ∧ (∀ d ds r, fn.run (d :: ds) = some r → d = .cls c) ∧ ∀ n, FnG P w K mg base κ nm.gb L C (mkFn fn c n)
  | .callo c, fn => ∃ C g, κ.ad c = some C ∧ StX.CallO K C g ∧ MethF fn c ∧ FnG P w K mg base κ nm.gb L g fn
  | .opadd c, fn => ∃ C g, κ.ad c = some C ∧ AddO K C g ∧ MethF fn c ∧ fn.modes = [.val, .val] ∧ (∀ ds r, fn.run ds = some r → ∃ d ts, ds = [d, .tup ts]) ∧ FnG P w K mg base κ nm.gb L g fn
theorem KdOk.mono {κ : Cs} {nm : Nm} {j k : Nat} {P : Program} {w : World} {K : PySem.W.Frag} {mg : Str → Option Value} {base : Heap} {kd : Kd} {fn : Fn} (h : KdOk κ nm j P w K mg base kd fn) (l : j ≤ k) : KdOk κ nm k P w K mg base kd fn := by
  cases kd with
  | non => exact h
  | def_ n => obtain ⟨a, h1, h2, h3⟩ := h; exact ⟨a, h1, h2, h3.mono l⟩
  | prop c p => obtain ⟨C, pa, g, h1, h2, h3, h4, h5, h6⟩ := h; exact ⟨C, pa, g, h1, h2, h3, h4, h5, h6.mono l⟩
  | meth c m => obtain ⟨C, g, h1, h2, h3, h4, h5, h6⟩ := h; exact ⟨C, g, h1, h2, h3, h4, h5, h6.mono l⟩
  | item c => obtain ⟨C, g, h1, h2, h3, h4, h5, h6⟩ := h; exact ⟨C, g, h1, h2, h3, h4, h5, h6.mono l⟩
  | len c => obtain ⟨C, g, h1, h2, h3, h4, h5, h6⟩ := h; exact ⟨C, g, h1, h2, h3, h4, h5, h6.mono l⟩
  | clsm c m => obtain ⟨C, mc, p, g, h1, h2, h3, h4, h5⟩ := h; exact ⟨C, mc, p, g, h1, h2, h3, h4, h5.mono l⟩
  | mk c => obtain ⟨C, h1, h2, h3, h4⟩ := h; exact ⟨C, h1, h2, h3, fun n => (h4 n).mono l⟩
  | callo c => obtain ⟨C, g, h1, h2, h3, h4⟩ := h; exact ⟨C, g, h1, h2, h3, h4.mono l⟩
  | opadd c => obtain ⟨C, g, h1, h2, h3, h4, h5, h6⟩ := h; exact ⟨C, g, h1, h2, h3, h4, h5, h6.mono l⟩
/-- d.get(x, ..) of a written dict: the int found there, if any -/
def KGet (K : PySem.W.Frag) (w : World) (a : Addr) (x : Str) (o : Option Int) : Prop :=
  ∃ es n u, K.lookup a = some ⟨.type "dict", none, .dict es n, #[]⟩ ∧ PySem.W.KeysLit w.params es.toList ∧ PySem.W.nsIn K a x = some u ∧ (match o with
    | some i => ∃ v, u = some v ∧ RelV (.int i) v
    | none => u = none)
/-- what the module's names are: defs, constants, built-ins, classes with fields, written dicts, classes for isinstance -/
structure Tab (κ : Cs) (Γ : Nat → Option Fn) (nm : Nm) (gl : Str → Option D) (L : Nat) (P : Program) (w : World) (K : PySem.W.Frag) (mg : Str → Option Value) (base : Heap) : Prop where
  fns : ∀ f fn, Γ f = some fn → KdOk κ nm L P w K mg base (nm.kd f) fn
  gls : ∀ x d, gl x = some d → ∃ u v, mg x = some u ∧ RelV v u ∧ ∀ F, Rep κ F d v
  blt : ∀ x ∈ bltNames, mg x = none
  fls : ∀ c, nm.fl c ≠ [] → nm.fl c = κ.fl c ∧ (nm.fl c).Nodup ∧ ∃ C, κ.ad c = some C ∧ Cls K C ∧ ∀ f ∈ nm.fl c, NoAttr K C f
  kts : ∀ x, nm.kt x ≠ [] → ∃ a, mg x = some (.ref a) ∧ (a == sysModules) = false ∧ ∀ z, KGet K w a z ((nm.kt x).lookup z)
  ics : ∀ c, nm.ic c = true → ∃ C, κ.ad c = some C ∧ mg c = some (.ref C) ∧ C8.InsC K C
theorem Tab.mono {P : Program} {w : World} {K : PySem.W.Frag} {mg : Str → Option Value} {base : Heap} {κ : Cs} {nm : Nm} {gl : Str → Option D} {j k : Nat} {Γ : Nat → Option Fn} (T : Tab κ Γ nm gl j P w K mg base) (l : j ≤ k) : Tab κ Γ nm gl k P w K mg base :=
  ⟨fun f g h => (T.fns f g h).mono l, T.gls, T.blt, T.fls, T.kts, T.ics⟩
structure Good (κ : Cs) (Γ : Nat → Option Fn) (nm : Nm) (gl : Str → Option D) (L : Nat) (N : List Str) (X : Cx) (sc : Scope) (fp : Str → Bool) : Prop where
  hN : X.N = N
  nd : N.Nodup
  hsc : X.env.scope = sc
  calm : X.calm = true
  xe : X.xe = fun _ _ => False
  gd : nm.gb = true → X.A.guards = some []
  room : Room (L + 1) X.A
  tab : Tab κ Γ nm gl L X.prog X.w X.K X.mg X.base
  fn : ∀ x, fp x = true → X.fn x = true

section
variable {κ : Cs} {Γ : Nat → Option Fn} {nm : Nm} {gl : Str → Option D} {L : Nat} {N : List Str} {X : Cx} {sc : Scope} {fp : Str → Bool}
theorem Good.blk (G : Good κ Γ nm gl L N X sc fp) {scope : Scope} (s : Shared) (H : Hp) (C : Addr) (cl : List (Str × Addr)) (fl : List Addr) :
    Good κ Γ nm gl L N (X.blk s H scope (compEnvC scope cl C X.env) fl) (relS scope sc) (fun n => scope.names.lookup n == some .cell) where
  hN := G.hN
  nd := G.nd
  hsc := by rw [← G.hsc]; rfl
  calm := G.calm
  xe := rfl
  gd := G.gd
  room := G.room
  tab := G.tab
  fn := fun _ h => h
theorem Good.vis (G : Good κ Γ nm gl L N X sc fp) {x : Str} (h : isVis sc x = true) : Vis X.env.scope x := by
  rw [G.hsc]
  unfold isVis at h
  split at h
  · exact .inl (by assumption)
  · exact .inr (.inl (by assumption))
  · exact .inr (.inr (by assumption))
  · cases h
theorem Good.gl' (G : Good κ Γ nm gl L N X sc fp) {x : Str} (h : isGl sc x = true) : Gl X x := by
  show X.env.scope.names.lookup x = _
  rw [G.hsc]
  unfold isGl at h
  split at h
  · assumption
  · cases h
theorem Good.loc (G : Good κ Γ nm gl L N X sc fp) {x : Str} (h : isLoc sc fp x = true) : Loc X.env.scope x ∧ (X.fn x = true ∨ X.env.scope.names.lookup x = some .local) := by
  rw [G.hsc]
  unfold isLoc at h
  split at h
  · exact ⟨.inl (by assumption), .inr (by assumption)⟩
  · exact ⟨.inr (by assumption), .inl (G.fn x h)⟩
  · cases h
theorem Good.blt (G : Good κ Γ nm gl L N X sc fp) {x : Str} (h : x ∈ bltNames) : X.mg x = none := G.tab.blt x h
theorem okName_1 {x : Str} (h : okName x = true) : (x == ("__debug__" : Str)) = false := by
  unfold okName at h
  rw [Bool.and_eq_true] at h
  simpa using h.1
theorem okName_2 {x : Str} (h : okName x = true) : (x == ("__classdict__" : Str)) = false := by
  unfold okName at h
  rw [Bool.and_eq_true] at h
  simpa using h.2
end

theorem PE.imp {X : Cx} {e : Expr} {t t' : TE} (h : PE X e t) (i : ∀ σ H Q, t' σ H Q → t σ H Q) : PE X e t' := ⟨fun pins s σ H Q I q => h.run pins s σ H Q I (i σ H Q q)⟩
theorem PT.imp {X : Cx} {e : Expr} {t t' : TT} (h : PT X e t) (i : ∀ σ H Q, t' σ H Q → t σ H Q) : PT X e t' := ⟨fun pins s σ H Q I q => h.run pins s σ H Q I (i σ H Q q)⟩
theorem PW.imp {X : Cx} {e : Expr} {t t' : TT} (h : PW X e t) (i : ∀ σ H Q, t' σ H Q → t σ H Q) : PW X e t' := ⟨fun w pins s σ H Q I q => h.run w pins s σ H Q I (i σ H Q q)⟩
theorem PA.imp {X : Cx} {e : List Expr} {t t' : TA} (h : PA X e t) (i : ∀ σ H Q, t' σ H Q → t σ H Q) : PA X e t' := ⟨fun p pins s σ H Q I q => h.run p pins s σ H Q I (i σ H Q q)⟩
theorem PS.imp {X : Cx} {e : Stmt} {t t' : TS} (h : PS X e t) (i : ∀ D σ H, t' D σ H → t D σ H) : PS X e t' := ⟨fun pins s σ H D I q => h.run pins s σ H D I (i D σ H q)⟩
theorem PSs.imp {X : Cx} {e : List Stmt} {t t' : TS} (h : PSs X e t) (i : ∀ D σ H, t' D σ H → t D σ H) : PSs X e t' := ⟨fun pins s σ H D I q => h.run pins s σ H D I (i D σ H q)⟩
theorem PG.imp {X : Cx} {e : Expr} {t t' : TG} (h : PG X e t) (i : ∀ v σ H Q, t' v σ H Q → t v σ H Q) : PG X e t' := ⟨fun pins s σ H v u Q I r q => h.run pins s σ H v u Q I r (i v σ H Q q)⟩
theorem PGs.imp {X : Cx} {e : List Expr} {t t' : TGs} (h : PGs X e t) (i : ∀ v σ H Q, t' v σ H Q → t v σ H Q) : PGs X e t' := ⟨fun pins s σ H v u Q I r q => h.run pins s σ H v u Q I r (i v σ H Q q)⟩
theorem PI.imp {X : Cx} {tg e : Expr} {t t' : TI} (h : PI X tg e t) (i : ∀ σ H R, t' σ H R → t σ H R) : PI X tg e t' := ⟨fun pins s σ H R I q => h.run pins s σ H R I (i σ H R q)⟩
theorem PI.or {X : Cx} {tg e : Expr} {t t' : TI} (h : PI X tg e t) (h' : PI X tg e t') : PI X tg e (fun σ H R => t σ H R ∨ t' σ H R) := ⟨fun pins s σ H R I q => q.elim (h.run pins s σ H R I) (h'.run pins s σ H R I)⟩
theorem PO.imp {X : Cx} {e : Option Expr} {t t' : TO} (h : PO X e t) (i : ∀ σ H Q, t' σ H Q → t σ H Q) : PO X e t' := ⟨fun pins s σ H Q I q => h.run pins s σ H Q I (i σ H Q q)⟩
theorem PE.or {X : Cx} {e : Expr} {t t' : TE} (h : PE X e t) (h' : PE X e t') : PE X e (fun σ H Q => t σ H Q ∨ t' σ H Q) := ⟨fun pins s σ H Q I q => q.elim (h.run pins s σ H Q I) (h'.run pins s σ H Q I)⟩
theorem OpR.imp {X : Cx} {f : Value → Value → Sem Value} {r r' : R2} (h : OpR X f r) (i : ∀ x y H Q, r' x y H Q → r x y H Q) : OpR X f r' := fun pins s σ H x y v u Q I rx ry q => h pins s σ H x y v u Q I rx ry (i x y H Q q)

section
variable (κ : Cs) (Γ : Nat → Option Fn) (gl : Str → Option D) (K : PySem.W.Frag)
def TEv (e : E) : TE := fun σ H Q => ∃ F ρ p ρ', Rel κ K F ρ σ H ∧ evE Γ gl e ρ = some (p, ρ') ∧ Yld κ K F ρ σ H ρ' p Q
def TTv (e : E) : TT := fun σ H Q => ∃ F ρ b ρ', Rel κ K F ρ σ H ∧ tstOf (evE Γ gl e ρ) = some (b, ρ') ∧ ∀ F' H', Step κ K F ρ σ H F' ρ' σ H' → Q b H'
def TAv (es : List E) : TA := fun σ H Q => ∃ F ρ ps ρ', Rel κ K F ρ σ H ∧ evEs Γ gl es ρ = some (ps, ρ') ∧ ∀ F' H' vs, Step κ K F ρ σ H F' ρ' σ H' → RepPs κ F' ρ' σ H H' ps vs → Q vs H'
def TOv (e : E) : TO := fun σ H Q => ∃ F ρ o ρ', Rel κ K F ρ σ H ∧ evO Γ gl e ρ = some (o, ρ') ∧ ∀ F' H', Step κ K F ρ σ H F' ρ' σ H' → Q o H'
/-- H0 is H but for what nobody reads by a lent slot -/
def Alt (F : Hp) (ρ : Ro) (σ : L2.St) (H H0 : Hp) : Prop := ∀ (j : Nat) (ds : List D) (a : Addr), ρ[j]? = some (some (W.bor ds)) → σ[j]? = some (some (V.ref a)) → H0 a = H a ∨ KLst κ K F a ds
theorem Alt.refl (F : Hp) (ρ : Ro) (σ : L2.St) (H : Hp) : Alt κ K F ρ σ H H := fun _ _ _ _ _ => .inl rfl
/-- a walk over the values ds, from the state told on; a list of nobody's may have changed -/
def WalkD (F : Hp) (ρ : Ro) (σ : L2.St) (H : Hp) (J : It) (ds : List D) : Prop := ∃ G Y, Walk J ds.length G Y ∧ (∀ H0 F1 ρ1 σ1 H1, Alt κ K F ρ σ H H0 → Step κ K F ρ σ H0 F1 ρ1 σ1 H1 → G H1) ∧
  ∀ H0 F1 ρ1 σ1 H1 i x H2 d, Alt κ K F ρ σ H H0 → Step κ K F ρ σ H0 F1 ρ1 σ1 H1 → Y i H1 x H2 → ds[i]? = some d → ∃ F2, Step κ K F1 ρ1 σ1 H1 F2 ρ1 σ1 H2 ∧ Rep κ F2 d x
def TIv (e : E) : TI := fun σ H R => ∃ F ρ ds ρ', Rel κ K F ρ σ H ∧ evI Γ gl e ρ = some (ds, ρ') ∧ ∀ F' H' J, Step κ K F ρ σ H F' ρ' σ H' → WalkD κ K F' ρ' σ H' J ds → R J H'
/-- a target gets d -/
def TGv (g : G) : TG := fun v σ H Q => ∃ F ρ d ρ', Rel κ K F ρ σ H ∧ Rep κ F d v ∧ asg g d ρ = some ρ' ∧ ∀ σ', Step κ K F ρ σ H F ρ' σ' H → (∀ k, k ∉ gSlots g → σ'[k]? = σ[k]?) → Q σ' H
def TGsv (gs : List G) : TGs := fun vs σ H Q => ∃ F ρ ds ρ', Rel κ K F ρ σ H ∧ RepL κ F ds vs ∧ asgs gs ds ρ = some ρ' ∧ ∀ σ', Step κ K F ρ σ H F ρ' σ' H → (∀ k, k ∉ gsSlots gs → σ'[k]? = σ[k]?) → Q σ' H
end

section
variable {κ : Cs} {Γ : Nat → Option Fn} {gl : Str → Option D} {K : PySem.W.Frag} {F F1 F2 H H0 H1 H2 : Hp} {ρ ρ1 ρ2 : Ro} {σ σ1 : L2.St}
/-- two operands -/
theorem two {a b : E} {p q : Pl} (rel : Rel κ K F ρ σ H) (h1 : evE Γ gl a ρ = some (p, ρ1)) (h2 : evE Γ gl b ρ1 = some (q, ρ2)) {R : V → V → Hp → Prop}
    (k : ∀ F2 H2 x y, Step κ K F ρ σ H F2 ρ2 σ H2 → RepP κ F2 ρ2 σ H H2 p x → RepP κ F2 ρ2 σ H H2 q y → R x y H2) : TEv κ Γ gl K a σ H fun x H1 => TEv κ Γ gl K b σ H1 fun y H2 => R x y H2 :=
  ⟨F, ρ, p, ρ1, rel, h1, fun F1 H1 x s1 r1 => ⟨F1, ρ1, q, ρ2, s1.rel, h2, fun F2 H2 y s2 r2 => k F2 H2 x y (s1.trans s2) (r1.step s2) (r2.early fun a z => s1.none_back z)⟩⟩
theorem one {a : E} {p : Pl} (rel : Rel κ K F ρ σ H) (h1 : evE Γ gl a ρ = some (p, ρ1)) {R : V → Hp → Prop}
    (k : ∀ F1 H1 x, Step κ K F ρ σ H F1 ρ1 σ H1 → RepP κ F1 ρ1 σ H H1 p x → R x H1) : TEv κ Γ gl K a σ H R := ⟨F, ρ, p, ρ1, rel, h1, k⟩
theorem RepPs.early (hn : ∀ a, H a = none → H0 a = none) {ps : List Pl} {vs : List V} (h : RepPs κ F1 ρ1 σ H H1 ps vs) : RepPs κ F1 ρ1 σ H0 H1 ps vs := h.imp fun _ _ z => z.early hn
theorem RepPs.step (s : Step κ K F ρ σ H F1 ρ1 σ H1) {ps : List Pl} {vs : List V} (h : RepPs κ F ρ σ H0 H ps vs) : RepPs κ F1 ρ1 σ H0 H1 ps vs := h.imp fun _ _ z => z.step s
theorem RepPs.append {ps qs : List Pl} {vs ws : List V} (h : RepPs κ F ρ σ H0 H ps vs) (k : RepPs κ F ρ σ H0 H qs ws) : RepPs κ F ρ σ H0 H (ps ++ qs) (vs ++ ws) := by
  induction h with
  | nil => exact k
  | cons a _ ih => exact .cons a ih
theorem repPs_vals : ∀ {ds : List D} {vs : List V}, RepL κ F ds vs → RepPs κ F ρ σ H0 H (ds.map fun d => Pl.tmp (.val d)) vs
  | [], vs, h => by rw [repL_nil] at h; subst h; exact .nil
  | d :: ds, vs, h => by
    rw [repL_cons] at h
    obtain ⟨v, r, rfl, h1, h2⟩ := h
    exact .cons h1 (repPs_vals h2)
/-- contents, one by one -/
def RepQL (κ : Cs) (K : PySem.W.Frag) (F H : Hp) : List D → List V → Prop
  | [], vs => vs = []
  | d :: ds, vs => ∃ v r, vs = v :: r ∧ RepQ κ K F H d v ∧ RepQL κ K F H ds r
theorem getQs_rep (r : Rel κ K F ρ σ H) : ∀ {ps : List Pl} {vs : List V} {ds : List D}, RepPs κ F ρ σ H0 H ps vs → getQs ρ ps = some ds → RepQL κ K F H ds vs
  | [], _, ds, .nil, e => by cases e; rfl
  | p :: ps, v :: vs, ds, .cons a b, e => by
    unfold getQs at e
    obtain ⟨d, h1, e⟩ := bnd1_of e
    obtain ⟨es, h2, e⟩ := bnd1_of e
    cases e
    exact ⟨v, vs, rfl, getQ_repw r a h1, getQs_rep r b h2⟩
theorem intD_of {d : D} {i : Int} (h : intD d = some i) : d = .int i := by cases d <;> first | (cases h; rfl) | cases h
theorem strD_of {d : D} {i : Str} (h : strD d = some i) : d = .str i := by cases d <;> first | (cases h; rfl) | cases h
theorem blD_of {d : D} {i : Bool} (h : blD d = some i) : d = .bl i := by cases d <;> first | (cases h; rfl) | cases h
theorem lstD_of {d : D} {i : List D} (h : lstD d = some i) : d = .lst i := by cases d <;> first | (cases h; rfl) | cases h
theorem ownW_of {d : W} {i : List D} (h : ownW d = some i) : d = .own i := by cases d <;> first | (cases h; rfl) | cases h
theorem seqD_of {d : D} {ds : List D} (h : seqD d = some ds) : d = .tup ds ∨ d = .lst ds := by
  cases d <;> first
    | (cases h; exact .inl rfl)
    | (cases h; exact .inr rfl)
    | cases h
theorem tst_of {r : Option (Pl × Ro)} {b : Bool} (h : tstOf r = some (b, ρ1)) : ∃ p, r = some (p, ρ1) ∧ getQ ρ1 p = some (.bl b) := by
  unfold tstOf at h
  obtain ⟨p, ρ2, h1, h⟩ := bnd2_of h
  obtain ⟨d, h2, h⟩ := bnd1_of h
  obtain ⟨b', h3, h⟩ := bnd1_of h
  cases h
  rw [blD_of h3] at h2
  exact ⟨p, h1, h2⟩
/-- a test's value -/
theorem tst_val {a : E} {b : Bool} (rel : Rel κ K F ρ σ H) (h : tstOf (evE Γ gl a ρ) = some (b, ρ1)) {R : V → Hp → Prop} (k : ∀ F1 H1, Step κ K F ρ σ H F1 ρ1 σ H1 → R (.bl b) H1) : TEv κ Γ gl K a σ H R := by
  obtain ⟨p, h1, h2⟩ := tst_of h
  refine one rel h1 fun F1 H1 x s r => ?_
  have e := repQ_bl (getQ_rep (K := K) s.rel r h2)
  subst e
  exact k F1 H1 s
theorem tt_of {X : Cx} {x : Expr} {e : E} (h : PE X x (TEv κ Γ gl X.K e)) (ht : plainTest x = true) : PT X x (TTv κ Γ gl X.K e) := by
  refine PT.imp (pt_val h (test_no ht X.env)) fun σ H Q q => ?_
  obtain ⟨F, ρ, b, ρ', rel, e1, k⟩ := q
  exact tst_val rel e1 fun F1 H1 s => ⟨b, rfl, k F1 H1 s⟩
/-- a later heap keeps what may be read -/
theorem Step.sqL (s : Step κ K F ρ σ H F1 ρ1 σ1 H1) {a : Addr} {xs : List V} (n : ¬ Own ρ σ a) (h : SqL K H a xs) : SqL K H1 a xs := by
  rcases h with (h | ⟨o, h⟩) | h
  · exact .inl (.inl (s.keep a _ h n))
  · exact .inl (.inr ⟨o, s.keep a _ h n⟩)
  · exact .inr h
/-- a sequence that nobody changes, walked -/
theorem walk_seqF (r : Rel κ K F ρ σ H) {a : Addr} {vs : List V} {ds : List D} (h : F a = some (.lst vs)) (hr : RepL κ F ds vs) : WalkD κ K F ρ σ H (Itl K a) ds := by
  refine ⟨fun H => SqL K H a vs, YAt vs, by rw [hr.length]; exact walk_list, fun H0 F1 ρ1 σ1 H1 al s => SqL.of (s.rel.le a _ (s.ex a _ h)), fun H0 F1 ρ1 σ1 H1 i x H2 d al s y e => ?_⟩
  obtain ⟨e1, e2⟩ := y
  subst e1
  obtain ⟨v, h1, h2⟩ := hr.get e
  rw [e2] at h1
  cases h1
  exact ⟨F1, .refl s.rel, Rep.mono s.ex d x h2⟩
theorem walk_tupF (r : Rel κ K F ρ σ H) {a : Addr} {o : Obj} {vs : List V} {ds : List D} (h : F a = some (tf o vs)) (hr : RepL κ F ds vs) : WalkD κ K F ρ σ H (Itt K a) ds := by
  refine ⟨fun H => SqT K H a vs, YAt vs, by rw [hr.length]; exact walk_tup, fun H0 F1 ρ1 σ1 H1 al s => sqT_f (s.rel.le a _ (s.ex a _ h)), fun H0 F1 ρ1 σ1 H1 i x H2 d al s y e => ?_⟩
  obtain ⟨e1, e2⟩ := y
  subst e1
  obtain ⟨v, h1, h2⟩ := hr.get e
  rw [e2] at h1
  cases h1
  exact ⟨F1, .refl s.rel, Rep.mono s.ex d x h2⟩
theorem walk_bor (r : Rel κ K F ρ σ H) {a : Addr} {vs : List V} {ds : List D} (n : Own ρ σ a → KLst κ K F a ds) (hb : ∃ j : Nat, ρ[j]? = some (some (W.bor ds)) ∧ σ[j]? = some (some (V.ref a))) (h : SqL K H a vs) (hr : RepL κ F ds vs) : WalkD κ K F ρ σ H (Itl K a) ds := by
  by_cases n' : KLst κ K F a ds
  · obtain ⟨ws, z1, z2⟩ := n'
    refine ⟨fun H => SqL K H a ws, YAt ws, by rw [z2.length]; exact walk_list, fun H0 F1 ρ1 σ1 H1 al s => .inr z1, fun H0 F1 ρ1 σ1 H1 i x H2 d al s y e => ?_⟩
    obtain ⟨e1, e2⟩ := y
    subst e1
    obtain ⟨v, h1, h2⟩ := z2.get e
    rw [e2] at h1
    cases h1
    exact ⟨F1, .refl s.rel, Rep.mono s.ex d x h2⟩
  have n2 : ¬ Own ρ σ a := fun z => n' (n z)
  obtain ⟨j, hj1, hj2⟩ := hb
  refine ⟨fun H => SqL K H a vs, YAt vs, by rw [hr.length]; exact walk_list, fun H0 F1 ρ1 σ1 H1 al s => s.sqL n2 ?_, fun H0 F1 ρ1 σ1 H1 i x H2 d al s y e => ?_⟩
  · rcases al j ds a hj1 hj2 with z | z
    · rcases h with (h | ⟨o, h⟩) | h
      · exact .inl (.inl (z.trans h))
      · exact .inl (.inr ⟨o, z.trans h⟩)
      · exact .inr h
    · exact absurd z n'
  obtain ⟨e1, e2⟩ := y
  subst e1
  obtain ⟨v, h1, h2⟩ := hr.get e
  rw [e2] at h1
  cases h1
  exact ⟨F1, .refl s.rel, Rep.mono s.ex d x h2⟩
theorem walk_rng (r : Rel κ K F ρ σ H) (a b : Int) : WalkD κ K F ρ σ H (Itr a (b - a).toNat) (rangeD a b) := by
  refine ⟨fun _ => True, YFn fun i => .int (a + i), by unfold rangeD; rw [List.length_map, List.length_range]; exact walk_range, fun _ _ _ _ _ _ _ => trivial, fun H0 F1 ρ1 σ1 H1 i x H2 d al s y e => ?_⟩
  obtain ⟨e1, e2⟩ := y
  subst e1 e2
  unfold rangeD at e
  rw [List.getElem?_map] at e
  cases q : (List.range (b - a).toNat)[i]? with
  | none => rw [q] at e; cases e
  | some j =>
    rw [q] at e
    cases e
    have hj : j = i := by
      obtain ⟨h1, h2⟩ := List.getElem?_eq_some_iff.mp q
      rw [List.getElem_range] at h2
      exact h2.symm
    subst hj
    exact ⟨F1, .refl s.rel, rep_int _⟩
theorem zipD_len : ∀ (xs ys : List D), (zipD xs ys).length = min xs.length ys.length
  | [], ys => by cases ys <;> simp [zipD]
  | x :: xs, [] => by simp [zipD]
  | x :: xs, y :: ys => by simp only [zipD, List.length_cons, zipD_len xs ys]; omega
theorem zipD_get : ∀ {xs ys : List D} {i : Nat} {d : D}, (zipD xs ys)[i]? = some d → ∃ x y, xs[i]? = some x ∧ ys[i]? = some y ∧ d = .tup [x, y]
  | [], ys, i, d, h => by cases ys <;> simp [zipD] at h
  | x :: xs, [], i, d, h => by simp [zipD] at h
  | x :: xs, y :: ys, 0, d, h => by simp [zipD] at h; exact ⟨x, y, rfl, rfl, h.symm⟩
  | x :: xs, y :: ys, i + 1, d, h => by
    simp only [zipD, List.getElem?_cons_succ] at h
    obtain ⟨u, v, h1, h2, h3⟩ := zipD_get h
    exact ⟨u, v, by simpa using h1, by simpa using h2, h3⟩
theorem enumD_len : ∀ (n : Nat) (xs : List D), (enumD n xs).length = xs.length
  | n, [] => rfl
  | n, x :: xs => by simp only [enumD, List.length_cons, enumD_len (n + 1) xs]
theorem enumD_get : ∀ {n : Nat} {xs : List D} {i : Nat} {d : D}, (enumD n xs)[i]? = some d → ∃ x, xs[i]? = some x ∧ d = .tup [.int ((n + i : Nat) : Int), x]
  | n, [], i, d, h => by simp [enumD] at h
  | n, x :: xs, 0, d, h => by simp [enumD] at h; exact ⟨x, rfl, h.symm⟩
  | n, x :: xs, i + 1, d, h => by
    simp only [enumD, List.getElem?_cons_succ] at h
    obtain ⟨u, h1, h3⟩ := enumD_get h
    exact ⟨u, by simpa using h1, by rw [h3]; congr 2; congr 1; omega⟩
/-- a new pair -/
theorem pair_new (r : Rel κ K F1 ρ1 σ1 H1) {T : Addr} {o : Obj} {x y : V} {d e : D} (hT : H1 T = none) (ho : o.dict = none) (h1 : Rep κ F1 d x) (h2 : Rep κ F1 e y) : ∃ F2, Step κ K F1 ρ1 σ1 H1 F2 ρ1 σ1 (upd H1 T (tf o [x, y])) ∧ Rep κ F2 (.tup [d, e]) (.ref T) := by
  have s := (Step.refl r).allocF (o := tf o [x, y]) hT
  refine ⟨_, s, ?_⟩
  unfold Rep
  exact ⟨T, o, [x, y], rfl, ho, upd_same, repL_cc.mpr ⟨Rep.mono s.ex _ _ h1, repL_cc.mpr ⟨Rep.mono s.ex _ _ h2, repL_nil.mpr rfl⟩⟩⟩
theorem walk_zipF (r : Rel κ K F ρ σ H) {a b : Addr} {vs us : List V} {ds es : List D} (ha : F a = some (.lst vs)) (hb : F b = some (.lst us)) (h1 : RepL κ F ds vs) (h2 : RepL κ F es us) : WalkD κ K F ρ σ H (ItzL K a b) (zipD ds es) := by
  refine ⟨_, _, walk_zL (xs := vs) (ys := us) (by rw [zipD_len, h1.length, h2.length]), fun H0 F1 ρ1 σ1 H1 al s => ⟨SqL.of (s.rel.le a _ (s.ex a _ ha)), SqL.of (s.rel.le b _ (s.ex b _ hb))⟩, fun H0 F1 ρ1 σ1 H1 i x H2 d al s y e => ?_⟩
  obtain ⟨T, o, u, v, rfl, hT, ho, rfl, q1, q2⟩ := y
  obtain ⟨d1, d2, e1, e2, rfl⟩ := zipD_get e
  obtain ⟨u', k1, k2⟩ := h1.get e1
  obtain ⟨v', k3, k4⟩ := h2.get e2
  have z1 : u = u' := Option.some.inj (q1.symm.trans k1)
  have z2 : v = v' := Option.some.inj (q2.symm.trans k3)
  subst z1 z2
  exact pair_new s.rel hT ho (Rep.mono s.ex _ _ k2) (Rep.mono s.ex _ _ k4)
theorem walk_zipTF (r : Rel κ K F ρ σ H) {a b : Addr} {o1 o2 : Obj} {vs us : List V} {ds es : List D} (ha : F a = some (tf o1 vs)) (hb : F b = some (tf o2 us)) (h1 : RepL κ F ds vs) (h2 : RepL κ F es us) : WalkD κ K F ρ σ H (ItzU K a b) (zipD ds es) := by
  refine ⟨_, _, walk_zU (xs := vs) (ys := us) (by rw [zipD_len, h1.length, h2.length]), fun H0 F1 ρ1 σ1 H1 al s => ⟨sqT_f (s.rel.le a _ (s.ex a _ ha)), sqT_f (s.rel.le b _ (s.ex b _ hb))⟩, fun H0 F1 ρ1 σ1 H1 i x H2 d al s y e => ?_⟩
  obtain ⟨T, o, u, v, rfl, hT, ho, rfl, q1, q2⟩ := y
  obtain ⟨d1, d2, e1, e2, rfl⟩ := zipD_get e
  obtain ⟨u', k1, k2⟩ := h1.get e1
  obtain ⟨v', k3, k4⟩ := h2.get e2
  have z1 : u = u' := Option.some.inj (q1.symm.trans k1)
  have z2 : v = v' := Option.some.inj (q2.symm.trans k3)
  subst z1 z2
  exact pair_new s.rel hT ho (Rep.mono s.ex _ _ k2) (Rep.mono s.ex _ _ k4)
theorem walk_enumF (r : Rel κ K F ρ σ H) {a : Addr} {vs : List V} {ds : List D} (ha : F a = some (.lst vs)) (h1 : RepL κ F ds vs) : WalkD κ K F ρ σ H (IteL K a) (enumD 0 ds) := by
  refine ⟨_, _, by rw [enumD_len, h1.length]; exact walk_eL (xs := vs), fun H0 F1 ρ1 σ1 H1 al s => SqL.of (s.rel.le a _ (s.ex a _ ha)), fun H0 F1 ρ1 σ1 H1 i x H2 d al s y e => ?_⟩
  obtain ⟨T, o, u, v, rfl, hT, ho, rfl, q1, q2⟩ := y
  obtain ⟨d1, e1, rfl⟩ := enumD_get e
  obtain ⟨u', k1, k2⟩ := h1.get e1
  have z1 : v = u' := Option.some.inj (q2.symm.trans k1)
  subst z1
  cases q1
  exact pair_new s.rel hT ho (by rw [show 0 + i = i by omega]; exact rep_int _) (Rep.mono s.ex _ _ k2)
theorem walk_enumTF (r : Rel κ K F ρ σ H) {a : Addr} {o1 : Obj} {vs : List V} {ds : List D} (ha : F a = some (tf o1 vs)) (h1 : RepL κ F ds vs) : WalkD κ K F ρ σ H (IteT K a) (enumD 0 ds) := by
  refine ⟨_, _, by rw [enumD_len, h1.length]; exact walk_eT (xs := vs), fun H0 F1 ρ1 σ1 H1 al s => sqT_f (s.rel.le a _ (s.ex a _ ha)), fun H0 F1 ρ1 σ1 H1 i x H2 d al s y e => ?_⟩
  obtain ⟨T, o, u, v, rfl, hT, ho, rfl, q1, q2⟩ := y
  obtain ⟨d1, e1, rfl⟩ := enumD_get e
  obtain ⟨u', k1, k2⟩ := h1.get e1
  have z1 : v = u' := Option.some.inj (q2.symm.trans k1)
  subst z1
  cases q1
  exact pair_new s.rel hT ho (by rw [show 0 + i = i by omega]; exact rep_int _) (Rep.mono s.ex _ _ k2)
end
end DT

end
section
/-! DT: slots stored, targets, wiped slots, comprehensions' turns. -/
namespace DT
open PySem PySem.Spec PyProof.Rows L2

section
variable {κ : Cs} {K : PySem.W.Frag} {F F1 F2 H H0 H1 H2 : Hp} {ρ ρ1 ρ2 : Ro} {σ σ1 σ2 : L2.St}
theorem set_at {α : Type} {l : List α} {i j : Nat} {x y : α} (h : (l.set i x)[j]? = some y) : (i = j ∧ i < l.length ∧ y = x) ∨ (i ≠ j ∧ l[j]? = some y) := by
  by_cases e : i = j
  · subst e
    rw [List.getElem?_set] at h
    simp only [if_true] at h
    split at h
    · cases h; exact .inl ⟨rfl, by assumption, rfl⟩
    · cases h
  · rw [List.getElem?_set_ne e] at h
    exact .inr ⟨e, h⟩
theorem own_set2 {i : Nat} {w : Option W} {x : Option V} (hw : ∀ ds, w ≠ some (.own ds)) {a : Addr} (h : Own (ρ.set i w) (σ.set i x) a) : Own ρ σ a := by
  obtain ⟨j, ds, h1, h2⟩ := h
  rcases set_at h1 with ⟨e, _, e2⟩ | ⟨e, h1⟩
  · exact absurd e2.symm (hw ds)
  · rw [List.getElem?_set_ne e] at h2
    exact ⟨j, ds, h1, h2⟩
/-- a name gets a value -/
theorem Step.setVal (s : Step κ K F ρ σ H F1 ρ1 σ1 H1) (i : Nat) {d : D} {v : V} (h : Rep κ F1 d v) : Step κ K F ρ σ H F1 (ρ1.set i (some (.val d))) (σ1.set i (some v)) H1 := by
  have nw : ∀ ds, (some (W.val d)) ≠ some (W.own ds) := by intro ds z; cases z
  refine ⟨⟨s.rel.le, by rw [List.length_set, List.length_set]; exact s.rel.len, fun j w q => ?_, fun j k xs ys b q1 q2 q3 q4 => ?_, fun j xs b q1 q2 q3 => ?_⟩, s.ex, s.new, s.keep, s.dom, fun a z => s.own a (own_set2 nw z), fun j xs q => ?_⟩
  · rcases set_at q with ⟨e, l, e2⟩ | ⟨e, q⟩
    · subst e
      cases e2
      exact ⟨v, List.getElem?_set_self (by rw [← s.rel.len]; exact l), h⟩
    · obtain ⟨u, h1, h2⟩ := s.rel.slot j w q
      exact ⟨u, by rw [List.getElem?_set_ne e]; exact h1, h2⟩
  · rcases set_at q1 with ⟨_, _, e⟩ | ⟨e1, q1⟩
    · cases e
    · rcases set_at q2 with ⟨_, _, e⟩ | ⟨e2, q2⟩
      · cases e
      · rw [List.getElem?_set_ne e1] at q3
        rw [List.getElem?_set_ne e2] at q4
        exact s.rel.uno j k xs ys b q1 q2 q3 q4
  · rcases set_at q1 with ⟨_, _, e⟩ | ⟨e1, q1⟩
    · cases e
    · rw [List.getElem?_set_ne e1] at q2
      exact s.rel.apart j xs b q1 q2 (own_set2 nw q3)
  · rcases set_at q with ⟨_, _, e⟩ | ⟨e1, q⟩
    · cases e
    · rw [List.getElem?_set_ne e1]
      exact s.bor j xs q
/-- a slot is forgotten -/
theorem Step.setNone (s : Step κ K F ρ σ H F1 ρ1 σ1 H1) (i : Nat) : Step κ K F ρ σ H F1 (ρ1.set i none) σ1 H1 := by
  have back : ∀ {j : Nat} {w : W}, (ρ1.set i none)[j]? = some (some w) → ρ1[j]? = some (some w) := fun {j w} q => by
    rcases set_at q with ⟨_, _, e⟩ | ⟨e, q⟩
    · cases e
    · exact q
  have ob : ∀ a, Own (ρ1.set i none) σ1 a → Own ρ1 σ1 a := fun a ⟨j, ds, h1, h2⟩ => ⟨j, ds, back h1, h2⟩
  exact ⟨⟨s.rel.le, by rw [List.length_set]; exact s.rel.len, fun j w q => s.rel.slot j w (back q), fun j k xs ys b q1 q2 q3 q4 => s.rel.uno j k xs ys b (back q1) (back q2) q3 q4, fun j xs b q1 q2 q3 => s.rel.apart j xs b (back q1) q2 (ob b q3)⟩,
    s.ex, s.new, s.keep, s.dom, fun a z => s.own a (ob a z), fun j xs q => s.bor j xs (back q)⟩
/-- a list, nobody's own so far, that a name may get: made since the base, or one that was a slot's own there -/
def Free (κ : Cs) (F0 : Hp) (ρ0 : Ro) (σ0 : L2.St) (H0 : Hp) (F : Hp) (ρ : Ro) (σ : L2.St) (H : Hp) (ds : List D) (v : V) : Prop :=
  ∃ a us, v = .ref a ∧ (H0 a = none ∨ Own ρ0 σ0 a) ∧ H a = some (.lst us) ∧ F a = none ∧ ¬ Own ρ σ a ∧ RepL κ F ds us
theorem bor_free (r0 : Rel κ K F ρ σ H) (s : Step κ K F ρ σ H F1 ρ1 σ1 H1) {a : Addr} (ha : H a = none ∨ Own ρ σ a) {j : Nat} {xs : List D} (q : ρ1[j]? = some (some (.bor xs))) (q2 : σ1[j]? = some (some (.ref a))) : KLst κ K F1 a xs := by
  obtain ⟨b1, b2⟩ := s.bor j xs q
  rw [q2] at b2
  rcases ha with ha | ha
  · obtain ⟨v, h1, h2⟩ := r0.slot j _ b1
    rw [← b2] at h1
    cases h1
    obtain ⟨b, vs, e, h3, h4⟩ := h2
    cases e
    rcases h3 with (h3 | ⟨o, h3⟩) | h3
    · rw [ha] at h3; cases h3
    · rw [ha] at h3; cases h3
    · exact ⟨vs, h3, RepL.mono s.ex _ _ h4⟩
  · exact (r0.apart j xs a b1 b2.symm ha).mono s.ex
theorem Step.setOwn (r0 : Rel κ K F ρ σ H) (s : Step κ K F ρ σ H F1 ρ1 σ1 H1) (i : Nat) {ds : List D} {v : V} (h : Free κ F ρ σ H F1 ρ1 σ1 H1 ds v) : Step κ K F ρ σ H F1 (ρ1.set i (some (.own ds))) (σ1.set i (some v)) H1 := by
  obtain ⟨a, us, e0, ha, hH, hF, hn, hr⟩ := h
  subst e0
  have up : ∀ b, Own (ρ1.set i (some (W.own ds))) (σ1.set i (some (.ref a))) b → b = a ∨ Own ρ1 σ1 b := fun b ⟨j, xs, h1, h2⟩ => by
    rcases set_at h1 with ⟨e, l, e2⟩ | ⟨e, h1⟩
    · subst e
      rw [List.getElem?_set_self (by rw [← s.rel.len]; exact l)] at h2
      cases h2
      exact .inl rfl
    · rw [List.getElem?_set_ne e] at h2
      exact .inr ⟨j, xs, h1, h2⟩
  refine ⟨⟨s.rel.le, by rw [List.length_set, List.length_set]; exact s.rel.len, fun j w q => ?_, fun j k xs ys b q1 q2 q3 q4 => ?_, fun j xs b q1 q2 q3 => ?_⟩, s.ex, s.new, s.keep, s.dom, fun b z => ?_, fun j xs q => ?_⟩
  · rcases set_at q with ⟨e, l, e2⟩ | ⟨e, q⟩
    · subst e
      cases e2
      exact ⟨.ref a, List.getElem?_set_self (by rw [← s.rel.len]; exact l), a, us, rfl, hH, hF, hr⟩
    · obtain ⟨u, h1, h2⟩ := s.rel.slot j w q
      exact ⟨u, by rw [List.getElem?_set_ne e]; exact h1, h2⟩
  · rcases set_at q1 with ⟨e1, l1, z1⟩ | ⟨e1, q1⟩
    · subst e1
      rw [List.getElem?_set_self (by rw [← s.rel.len]; exact l1)] at q3
      cases q3
      rcases set_at q2 with ⟨e2, _, _⟩ | ⟨e2, q2⟩
      · exact e2
      · rw [List.getElem?_set_ne e2] at q4
        exact (hn ⟨k, ys, q2, q4⟩).elim
    · rw [List.getElem?_set_ne e1] at q3
      rcases set_at q2 with ⟨e2, l2, z2⟩ | ⟨e2, q2⟩
      · subst e2
        rw [List.getElem?_set_self (by rw [← s.rel.len]; exact l2)] at q4
        cases q4
        exact (hn ⟨j, xs, q1, q3⟩).elim
      · rw [List.getElem?_set_ne e2] at q4
        exact s.rel.uno j k xs ys b q1 q2 q3 q4
  · rcases set_at q1 with ⟨_, _, e⟩ | ⟨e1, q1⟩
    · cases e
    · rw [List.getElem?_set_ne e1] at q2
      rcases up b q3 with z | z
      · subst z
        exact bor_free r0 s ha q1 q2
      · exact s.rel.apart j xs b q1 q2 z
  · rcases up b z with z | z
    · subst z
      exact ha.symm
    · exact s.own b z
  · rcases set_at q with ⟨_, _, e⟩ | ⟨e1, q⟩
    · cases e
    · rw [List.getElem?_set_ne e1]
      exact s.bor j xs q
/-- a new list that no slot has is changed -/
theorem Step.chFresh (r0 : Rel κ K F ρ σ H) (s : Step κ K F ρ σ H F1 ρ1 σ1 H1) {a : Addr} (ha : H a = none) (hF : F1 a = none) (hn : ¬ Own ρ1 σ1 a) {o : HO} : Step κ K F ρ σ H F1 ρ1 σ1 (upd H1 a o) := by
  refine ⟨⟨fun b u q => ?_, s.rel.len, fun j w q => ?_, s.rel.uno, s.rel.apart⟩, s.ex, s.new, fun b u q n => ?_, fun b q => ?_, s.own, s.bor⟩
  · rw [upd_ne (fun z => by subst z; rw [hF] at q; cases q)]; exact s.rel.le b u q
  · obtain ⟨v, h1, h2⟩ := s.rel.slot j w q
    refine ⟨v, h1, ?_⟩
    cases w with
    | val d => exact h2
    | own xs =>
      obtain ⟨b, us, e, h3, h4⟩ := h2
      subst e
      exact ⟨b, us, rfl, by rw [upd_ne (fun z => hn (by subst z; exact ⟨j, xs, q, h1⟩))]; exact h3, h4⟩
    | bor xs =>
      obtain ⟨b, us, e, h3, h4⟩ := h2
      subst e
      by_cases z : b = a
      · subst z
        obtain ⟨ws, z1, z2⟩ := (bor_free r0 s (.inl ha) q h1).sq (H := upd H1 b o)
        exact ⟨b, ws, rfl, z1, z2⟩
      · refine ⟨b, us, rfl, ?_, h4⟩
        rcases h3 with (h3 | ⟨o', h3⟩) | h3
        · exact .inl (.inl (by rw [upd_ne z]; exact h3))
        · exact .inl (.inr ⟨o', by rw [upd_ne z]; exact h3⟩)
        · exact .inr h3
  · rw [upd_ne (ne_of_none q ha)]; exact s.keep b u q n
  · by_cases e : b = a
    · subst e; rw [upd_same]; intro z; cases z
    · rw [upd_ne e]; exact s.dom b q

/-! ### wiped slots -/
theorem wipeR_len (ρ : Ro) : ∀ vs : List Nat, (wipeR ρ vs).length = ρ.length
  | [] => rfl
  | v :: vs => by unfold wipeR; rw [List.length_set, wipeR_len ρ vs]
theorem wipeR_at {j : Nat} {w : W} : ∀ {vs : List Nat}, (wipeR ρ vs)[j]? = some (some w) → ρ[j]? = some (some w) ∧ j ∉ vs
  | [], h => ⟨h, by simp⟩
  | v :: vs, h => by
    unfold wipeR at h
    rcases set_at h with ⟨_, _, e⟩ | ⟨e, h⟩
    · cases e
    · obtain ⟨h1, h2⟩ := wipeR_at h
      refine ⟨h1, fun z => ?_⟩
      rcases List.mem_cons.mp z with z | z
      · exact e z.symm
      · exact h2 z
theorem Step.wipe (s : Step κ K F ρ σ H F1 ρ1 σ1 H1) (vs : List Nat) : Step κ K F ρ σ H F1 (wipeR ρ1 vs) (L2.wipe σ1 vs) H1 := by
  have eq : ∀ {j : Nat} {w : W}, (wipeR ρ1 vs)[j]? = some (some w) → ρ1[j]? = some (some w) ∧ (L2.wipe σ1 vs)[j]? = σ1[j]? := fun {j w} h => by
    obtain ⟨h1, h2⟩ := wipeR_at h
    exact ⟨h1, wipe_out h2⟩
  have ob : ∀ a, Own (wipeR ρ1 vs) (L2.wipe σ1 vs) a → Own ρ1 σ1 a := fun a ⟨j, ds, h1, h2⟩ => by
    obtain ⟨e1, e2⟩ := eq h1
    rw [e2] at h2
    exact ⟨j, ds, e1, h2⟩
  refine ⟨⟨s.rel.le, by rw [wipeR_len, wipe_length]; exact s.rel.len, fun j w q => ?_, fun j k xs ys b q1 q2 q3 q4 => ?_, fun j xs b q1 q2 q3 => ?_⟩, s.ex, s.new, s.keep, s.dom, fun a z => s.own a (ob a z), fun j xs q => ?_⟩
  · obtain ⟨e1, e2⟩ := eq q
    rw [e2]
    exact s.rel.slot j w e1
  · obtain ⟨e1, e2⟩ := eq q1
    obtain ⟨e3, e4⟩ := eq q2
    rw [e2] at q3
    rw [e4] at q4
    exact s.rel.uno j k xs ys b e1 e3 q3 q4
  · obtain ⟨e1, e2⟩ := eq q1
    rw [e2] at q2
    exact s.rel.apart j xs b e1 q2 (ob b q3)
  · obtain ⟨e1, e2⟩ := eq q
    rw [e2]
    exact s.bor j xs e1
theorem backR_len (ρ ρ1 : Ro) : ∀ vs : List Nat, (backR ρ ρ1 vs).length = ρ1.length
  | [] => rfl
  | v :: vs => by unfold backR; rw [List.length_set, backR_len ρ ρ1 vs]
theorem backR_at {j : Nat} {w : W} : ∀ {vs : List Nat}, (backR ρ ρ1 vs)[j]? = some (some w) → (j ∈ vs ∧ ρ[j]? = some (some w)) ∨ (j ∉ vs ∧ ρ1[j]? = some (some w))
  | [], h => .inr ⟨by simp, h⟩
  | v :: vs, h => by
    unfold backR at h
    rcases set_at h with ⟨e1, _, e⟩ | ⟨e, h⟩
    · subst e1
      exact .inl ⟨List.mem_cons_self, slot_get e.symm⟩
    · rcases backR_at h with ⟨h1, h2⟩ | ⟨h1, h2⟩
      · exact .inl ⟨List.mem_cons_of_mem _ h1, h2⟩
      · refine .inr ⟨fun z => ?_, h2⟩
        rcases List.mem_cons.mp z with z | z
        · exact e z.symm
        · exact h1 z
theorem clear_at {vs : List Nat} (h : clearR ρ vs = true) {j : Nat} {w : W} (hj : j ∈ vs) (e : ρ[j]? = some (some w)) : ∃ d, w = .val d := by
  unfold clearR at h
  have h := List.all_eq_true.mp h j hj
  rw [e] at h
  cases w with
  | val d => exact ⟨d, rfl⟩
  | own _ => cases h
  | bor _ => cases h
theorem Step.back (r : Rel κ K F ρ σ H) {vs : List Nat} (hc : clearR ρ vs = true) (s : Step κ K F ρ σ H F1 ρ1 (L2.wipe σ vs) H1) : Step κ K F ρ σ H F1 (backR ρ ρ1 vs) σ H1 := by
  have eqO : ∀ {j : Nat} {xs : List D}, (backR ρ ρ1 vs)[j]? = some (some (.own xs)) → ρ1[j]? = some (some (.own xs)) ∧ (L2.wipe σ vs)[j]? = σ[j]? := fun {j xs} h => by
    rcases backR_at h with ⟨h1, h2⟩ | ⟨h1, h2⟩
    · obtain ⟨d, e⟩ := clear_at hc h1 h2
      cases e
    · exact ⟨h2, wipe_out h1⟩
  have eqB : ∀ {j : Nat} {xs : List D}, (backR ρ ρ1 vs)[j]? = some (some (.bor xs)) → ρ1[j]? = some (some (.bor xs)) ∧ (L2.wipe σ vs)[j]? = σ[j]? := fun {j xs} h => by
    rcases backR_at h with ⟨h1, h2⟩ | ⟨h1, h2⟩
    · obtain ⟨d, e⟩ := clear_at hc h1 h2
      cases e
    · exact ⟨h2, wipe_out h1⟩
  have ob : ∀ a, Own (backR ρ ρ1 vs) σ a → Own ρ1 (L2.wipe σ vs) a := fun a ⟨j, ds, h1, h2⟩ => by
    obtain ⟨e1, e2⟩ := eqO h1
    rw [← e2] at h2
    exact ⟨j, ds, e1, h2⟩
  have hl : ρ1.length = ρ.length := by rw [s.rel.len, wipe_length, r.len]
  refine ⟨⟨s.rel.le, by rw [backR_len, hl]; exact r.len, fun j w q => ?_, fun j k xs ys b q1 q2 q3 q4 => ?_, fun j xs b q1 q2 q3 => ?_⟩, s.ex, s.new, s.keep, s.dom, fun a z => s.own a (ob a z), fun j xs q => ?_⟩
  · rcases backR_at q with ⟨h1, h2⟩ | ⟨h1, h2⟩
    · obtain ⟨d, e⟩ := clear_at hc h1 h2
      subst e
      obtain ⟨v, k1, k2⟩ := r.slot j _ h2
      exact ⟨v, k1, Rep.mono s.ex d v k2⟩
    · obtain ⟨v, k1, k2⟩ := s.rel.slot j w h2
      rw [wipe_out h1] at k1
      exact ⟨v, k1, k2⟩
  · obtain ⟨e1, e2⟩ := eqO q1
    obtain ⟨e3, e4⟩ := eqO q2
    exact s.rel.uno j k xs ys b e1 e3 (e2.trans q3) (e4.trans q4)
  · obtain ⟨e1, e2⟩ := eqB q1
    exact s.rel.apart j xs b e1 (e2.trans q2) (ob b q3)
  · obtain ⟨e1, e2⟩ := eqB q
    exact ⟨(s.bor j xs e1).1, rfl⟩
end

/-! ### targets -/
section
variable {κ : Cs} {Γ : Nat → Option Fn} {nm : Nm} {gl : Str → Option D} {L : Nat} {N : List Str}
theorem asg_no {e : Expr} (h : notStar e = true) (es : List Expr) (env : PySem.Env) : assignEach (e :: es) env = (false, assign e env) :: assignEach es env := by
  cases e <;> first
    | rfl
    | cases h
mutual
theorem sndG : ∀ (g : G) (X : Cx) (sc : Scope) (fp : Str → Bool) (x : Expr), Good κ Γ nm gl L N X sc fp → agG N sc fp g x = true → PG X x (TGv κ X.K g)
  | .name i, X, sc, fp, x, G, h => by
    unfold agG at h
    cases x with
    | Name n pos =>
      simp only [Bool.and_eq_true, decide_eq_true_eq] at h
      obtain ⟨l1, l2⟩ := G.loc h.2
      refine PG.imp (pg_name (i := i) (by rw [G.hN]; exact G.nd) (by rw [G.hN]; exact h.1) l1 l2) fun v σ H Q q => ?_
      obtain ⟨F, ρ, d, ρ', rel, hd, e, k⟩ := q
      unfold asg at e
      cases e
      exact k _ ((Step.refl rel).setVal i hd) fun j hj => by
        unfold gSlots at hj
        rw [List.getElem?_set_ne (fun z => hj (by simp [z]))]
    | _ => cases h
  | .tup gs, X, sc, fp, x, G, h => by
    unfold agG at h
    cases x with
    | Tuple xs kk pos =>
      simp only [Bool.and_eq_true, decide_eq_true_eq] at h
      obtain ⟨h1, h2, h3⟩ := sndGs gs X sc fp xs G h.1
      refine PG.imp (pg_tup (n := xs.length) G.calm h1 (by rw [h2]) h3) fun v σ H Q q => ?_
      obtain ⟨F, ρ, d, ρ', rel, hd, e, k⟩ := q
      cases d with
      | tup ds =>
        unfold asg at e
        unfold Rep at hd
        obtain ⟨a, o, vs, rfl, h0, hF, hr⟩ := hd
        have hlen : ds.length = gs.length := by
          have z : ∀ (gs : List DT.G) (ds : List D) (ρ ρ' : Ro), asgs gs ds ρ = some ρ' → ds.length = gs.length := by
            intro gs
            induction gs with
            | nil => intro ds ρ ρ' e; cases ds with
              | nil => rfl
              | cons _ _ => unfold asgs at e; cases e
            | cons g gs ih => intro ds ρ ρ' e; cases ds with
              | nil => unfold asgs at e; cases e
              | cons d ds =>
                unfold asgs at e
                cases q : asg g d ρ with
                | none => rw [q] at e; cases e
                | some ρ1 =>
                  rw [q] at e
                  simp [ih ds ρ1 ρ' e]
          exact z gs ds ρ ρ' e
        refine ⟨a, vs, rfl, sqT_f (rel.le a _ hF), by rw [← hr.length, hlen, h.2], F, ρ, ds, ρ', rel, hr, e, fun σ' s z => k σ' s fun j hj => z j (by unfold gSlots at hj; exact hj)⟩
      | _ => unfold asg at e; cases e
    | _ => cases h
theorem sndGs : ∀ (gs : List G) (X : Cx) (sc : Scope) (fp : Str → Bool) (xs : List Expr), Good κ Γ nm gl L N X sc fp → agGs N sc fp gs xs = true →
    PGs X xs (TGsv κ X.K gs) ∧ (assignEach xs X.env).length = xs.length ∧ (assignEach xs X.env).findIdx? (·.1) = none
  | [], X, sc, fp, [], G, h => by
    refine ⟨PGs.imp pgs_nil fun vs σ H Q q => ?_, rfl, rfl⟩
    obtain ⟨F, ρ, ds, ρ', rel, hd, e, k⟩ := q
    cases ds with
    | nil =>
      rw [repL_nil] at hd
      unfold asgs at e
      cases e
      exact ⟨hd, k σ (.refl rel) fun _ _ => rfl⟩
    | cons _ _ => unfold asgs at e; cases e
  | [], X, sc, fp, x :: xs, G, h => by unfold agGs at h; cases h
  | g :: gs, X, sc, fp, [], G, h => by unfold agGs at h; cases h
  | g :: gs, X, sc, fp, x :: xs, G, h => by
    unfold agGs at h
    simp only [Bool.and_eq_true] at h
    obtain ⟨h1, h2, h3⟩ := sndGs gs X sc fp xs G h.2
    have e0 := asg_no h.1.2 xs X.env
    refine ⟨PGs.imp (pgs_cons (sndG g X sc fp x G h.1.1) h1 (by rw [e0]; rfl)) fun vs σ H Q q => ?_, by rw [e0]; simp [h2], by rw [e0, List.findIdx?_cons, h3]; rfl⟩
    obtain ⟨F, ρ, ds, ρ', rel, hd, e, k⟩ := q
    cases ds with
    | nil => unfold asgs at e; cases e
    | cons d ds =>
      rw [repL_cons] at hd
      obtain ⟨v, r, rfl, hd1, hd2⟩ := hd
      unfold asgs at e
      cases q1 : asg g d ρ with
      | none => rw [q1] at e; cases e
      | some ρ1 =>
        rw [q1] at e
        refine ⟨v, r, rfl, F, ρ, d, ρ1, rel, hd1, q1, fun σ1 s1 z1 => ⟨F, ρ1, ds, ρ', s1.rel, hd2, e, fun σ2 s2 z2 => k σ2 (s1.trans s2) fun j hj => ?_⟩⟩
        unfold gsSlots at hj
        rw [List.mem_append, not_or] at hj
        rw [z2 j hj.2, z1 j hj.1]
end
end
end DT

end
section
/-! DT: built-in functions, methods of texts, slices. -/
namespace DT
open PySem PySem.Spec PyProof.Rows L2

/-! ### repr -/
def rRepr (K : PySem.W.Frag) : List V → Hp → VK → Prop := fun vs H Q => ∃ v d, vs = [v] ∧ Dp K H v d ∧ d.showable = true ∧ d.shown.length ≤ sizeLine ∧ d.depth ≤ 60 ∧ d.hasDict = false ∧ Q (.str d.shown) H
theorem shown_none : PyData.shown .none = "None" := by simp only [PyData.shown]
theorem shown_bool (b : Bool) : PyData.shown (.bool b) = (if b then "True" else "False" : String) := by simp only [PyData.shown]; cases b <;> rfl
theorem shown_int (i : Int) : PyData.shown (.int i) = toString i := by simp only [PyData.shown]
theorem shown_str (x : Str) : PyData.shown (.str x) = reprText x := by simp only [PyData.shown]
theorem cr_repr {X : Cx} (hg : X.A.guards = some []) (hu : X.A.units + 64 < cLine) : CallR X (.builtin "repr") (rRepr X.K) := by
  intro pins s σ H xs us Q I r h
  obtain ⟨v, d, rfl, hd, h1, h2, h3, h4, q⟩ := h
  obtain ⟨u, rfl, ru⟩ := vals1 r
  have scal : ∀ {y : Str}, Q (.str y) H → ∀ t k, EP X pins σ Q (.str y t) { s with toks := k } := fun q t k => ⟨.str _, H, I.tok _, ⟨_, rfl⟩, q⟩
  have ref : ∀ a, v = .ref a → wpAny (model X.prog X.w) X.A (call (.builtin "repr") [u]) (EP X pins σ Q) X.xe s := fun a e => by
    subst e
    obtain rfl : u = Value.ref a := ru
    obtain ⟨as, hr⟩ := Dp.reads I d (.ref a) (.ref a) hd rfl
    refine repr_of_reads' hr h1 (PyData.noDict_hsm h4) hg (by omega) (fun _ _ e => e) (fun h' t tk hk => ?_) h2
    exact ⟨.str d.shown, H, I.kept hk, ⟨_, rfl⟩, q⟩
  cases hd with
  | non =>
    cases (show u = Value.none from ru)
    rw [shown_none] at q
    exact PySem.P.repr_of_none (scal q _ _)
  | bl b =>
    cases (show u = Value.bool b from ru)
    rw [shown_bool] at q
    refine PySem.P.repr_of_bool ?_
    cases b
    · exact scal q _ _
    · exact scal q _ _
  | int i =>
    obtain ⟨t, rfl⟩ := (show ∃ t, u = Value.int i t from ru)
    rw [shown_int] at q
    refine PySem.P.repr_of_int ?_ (scal q _ _)
    simp only [PyData.showable, decide_eq_true_eq] at h1
    exact h1
  | str x =>
    obtain ⟨t, rfl⟩ := (show ∃ t, u = Value.str x t from ru)
    rw [shown_str] at q h2
    exact PySem.P.repr_of_str (scal q _ _) h2
  | lst _ _ => exact ref _ rfl
  | tup _ _ => exact ref _ rfl

section
variable {κ : Cs} {K : PySem.W.Frag} {F F1 F2 H H0 H1 H2 : Hp} {ρ ρ1 ρ2 : Ro} {σ : L2.St}
theorem repQL1 {d : D} {vs : List V} (h : RepQL κ K F H [d] vs) : ∃ v, vs = [v] ∧ RepQ κ K F H d v := by
  obtain ⟨v, r, e1, h1, h2⟩ := h
  have h2 : r = [] := h2
  subst h2
  exact ⟨v, e1, h1⟩
theorem repQL2 {d e : D} {vs : List V} (h : RepQL κ K F H [d, e] vs) : ∃ v w, vs = [v, w] ∧ RepQ κ K F H d v ∧ RepQ κ K F H e w := by
  obtain ⟨v, r, e1, h1, h2⟩ := h
  obtain ⟨w, e2, h3⟩ := repQL1 h2
  exact ⟨v, w, by rw [e1, e2], h1, h3⟩
theorem repQ_lst {ds : List D} {v : V} (h : RepQ κ K F H (.lst ds) v) : ∃ a vs, v = .ref a ∧ SqL K H a vs ∧ RepL κ F ds vs := h
theorem small_log {i : Int} (h : i.natAbs < 1000000) : i.natAbs.log2 < 1920 := by
  have h1 : i.natAbs.log2 ≤ i.natAbs := Nat.log2_le_self _
  rcases Nat.lt_or_ge i.natAbs.log2 1920 with h2 | h2
  · exact h2
  · have h3 : 2 ^ i.natAbs.log2 ≤ i.natAbs := Nat.log2_self_le (by intro z; rw [z] at h2; simp at h2)
    have h4 : 2 ^ 1920 ≤ 2 ^ i.natAbs.log2 := Nat.pow_le_pow_right (by omega) h2
    have h5 : (1000000 : Nat) ≤ 2 ^ 1920 := by
      have : (2:Nat) ^ 20 ≤ 2 ^ 1920 := Nat.pow_le_pow_right (by omega) (by omega)
      have e : (2:Nat) ^ 20 = 1048576 := by decide
      omega
    omega
def rLenA (K : PySem.W.Frag) : List V → Hp → VK → Prop := fun xs H Q => (∃ p ys, xs = [.ref p] ∧ (SqL K H p ys ∨ SqT K H p ys) ∧ Q (.int ys.length) H) ∨ ∃ z, xs = [.str z] ∧ z.length ≤ sizeLine ∧ Q (.int z.length) H
theorem bi_len (s : Step κ K F ρ σ H F2 ρ2 σ H2) {ds : List D} {vs : List V} {w : W} {Q : VK} (e : biRun .len ds = some w) (h : RepQL κ K F2 H2 ds vs) (Y : Yld κ K F ρ σ H ρ2 (.tmp w) Q) : rLenA K vs H2 Q := by
  have e : biLen ds = some w := e
  unfold biLen at e
  split at e
  · cases e
    obtain ⟨v, rfl, h1⟩ := repQL1 h
    obtain ⟨a, us, rfl, h2, h3⟩ := repQ_tup s.rel.le h1
    refine .inl ⟨a, us, rfl, .inr h2, ?_⟩
    rw [← h3.length]
    exact yld_val s Y (rep_int _)
  · cases e
    obtain ⟨v, rfl, h1⟩ := repQL1 h
    obtain ⟨a, us, rfl, h2, h3⟩ := repQ_lst h1
    refine .inl ⟨a, us, rfl, .inl h2, ?_⟩
    rw [← h3.length]
    exact yld_val s Y (rep_int _)
  · obtain ⟨c, e⟩ := req_of e
    cases e
    obtain ⟨v, rfl, h1⟩ := repQL1 h
    exact .inr ⟨_, by rw [repQ_str h1], big_le (of_decide_eq_true c), yld_val s Y (rep_int _)⟩
  · cases e
theorem bi_tuple (s : Step κ K F ρ σ H F2 ρ2 σ H2) {ds : List D} {vs : List V} {w : W} {Q : VK} (e : biRun .tuple ds = some w) (h : RepQL κ K F2 H2 ds vs) (Y : Yld κ K F ρ σ H ρ2 (.tmp w) Q) :
    ∃ p ys, vs = [.ref p] ∧ ((SqL K H2 p ys ∧ newT ys H2 Q) ∨ (SqT K H2 p ys ∧ Q (.ref p) H2)) := by
  have e : biTuple ds = some w := e
  unfold biTuple at e
  split at e
  · cases e
    obtain ⟨v, rfl, h1⟩ := repQL1 h
    obtain ⟨a, us, rfl, h2, h3⟩ := repQ_tup s.rel.le h1
    exact ⟨a, us, rfl, .inr ⟨h2, yld_val s Y h1⟩⟩
  · cases e
    obtain ⟨v, rfl, h1⟩ := repQL1 h
    obtain ⟨a, us, rfl, h2, h3⟩ := repQ_lst h1
    exact ⟨a, us, rfl, .inl ⟨h2, yld_tup s Y h3⟩⟩
  · cases e
theorem bi_list (s : Step κ K F ρ σ H F2 ρ2 σ H2) {ds : List D} {vs : List V} {w : W} {Q : VK} (e : biRun .list ds = some w) (h : RepQL κ K F2 H2 ds vs) (Y : Yld κ K F ρ σ H ρ2 (.tmp w) Q) :
    ∃ p ys, vs = [.ref p] ∧ (SqL K H2 p ys ∨ SqT K H2 p ys) ∧ ∀ l, H2 l = none → Q (.ref l) (upd H2 l (.lst ys)) := by
  have e : biList ds = some w := e
  unfold biList at e
  split at e
  · cases e
    obtain ⟨v, rfl, h1⟩ := repQL1 h
    obtain ⟨a, us, rfl, h2, h3⟩ := repQ_tup s.rel.le h1
    exact ⟨a, us, rfl, .inr h2, yld_own s Y h3⟩
  · cases e
    obtain ⟨v, rfl, h1⟩ := repQL1 h
    obtain ⟨a, us, rfl, h2, h3⟩ := repQ_lst h1
    exact ⟨a, us, rfl, .inl h2, yld_own s Y h3⟩
  · cases e
theorem bi_all (s : Step κ K F ρ σ H F2 ρ2 σ H2) {ds : List D} {vs : List V} {w : W} {Q : VK} (e : biRun .all ds = some w) (h : RepQL κ K F2 H2 ds vs) (Y : Yld κ K F ρ σ H ρ2 (.tmp w) Q) : rAll K vs H2 Q := by
  have e : biAll ds = some w := e
  unfold biAll at e
  split at e
  · obtain ⟨l, h0, e⟩ := bnd1_of e
    cases e
    obtain ⟨v, rfl, h1⟩ := repQL1 h
    obtain ⟨a, us, rfl, h2, h3⟩ := repQ_lst h1
    rw [repL_bools h0 h3] at h2
    exact ⟨a, l, rfl, h2, yld_val s Y (rep_bl _)⟩
  · cases e
theorem bi_any (s : Step κ K F ρ σ H F2 ρ2 σ H2) {ds : List D} {vs : List V} {w : W} {Q : VK} (e : biRun .any ds = some w) (h : RepQL κ K F2 H2 ds vs) (Y : Yld κ K F ρ σ H ρ2 (.tmp w) Q) : rAny K vs H2 Q := by
  have e : biAny ds = some w := e
  unfold biAny at e
  split at e
  · obtain ⟨l, h0, e⟩ := bnd1_of e
    cases e
    obtain ⟨v, rfl, h1⟩ := repQL1 h
    obtain ⟨a, us, rfl, h2, h3⟩ := repQ_lst h1
    rw [repL_bools h0 h3] at h2
    exact ⟨a, l, rfl, h2, yld_val s Y (rep_bl _)⟩
  · cases e
theorem bi_str (s : Step κ K F ρ σ H F2 ρ2 σ H2) {ds : List D} {vs : List V} {w : W} {Q : VK} (e : biRun .str ds = some w) (h : RepQL κ K F2 H2 ds vs) (Y : Yld κ K F ρ σ H ρ2 (.tmp w) Q) :
    (∃ i : Int, vs = [.int i] ∧ i.natAbs.log2 < 1920 ∧ Q (.str (toString i)) H2) ∨ ∃ a, vs = [.str a] ∧ Q (.str a) H2 := by
  have e : biStr ds = some w := e
  unfold biStr at e
  split at e
  · obtain ⟨c, e⟩ := req_of e
    cases e
    obtain ⟨v, rfl, h1⟩ := repQL1 h
    exact .inl ⟨_, by rw [repQ_int h1], small_log (of_decide_eq_true c), yld_val s Y (rep_str _)⟩
  · cases e
    obtain ⟨v, rfl, h1⟩ := repQL1 h
    exact .inr ⟨_, by rw [repQ_str h1], yld_val s Y (rep_str _)⟩
  · cases e
theorem bi_repr (s : Step κ K F ρ σ H F2 ρ2 σ H2) {ds : List D} {vs : List V} {w : W} {Q : VK} (e : biRun .repr ds = some w) (h : RepQL κ K F2 H2 ds vs) (Y : Yld κ K F ρ σ H ρ2 (.tmp w) Q) : rRepr K vs H2 Q := by
  have e : biRepr ds = some w := e
  unfold biRepr at e
  split at e
  · obtain ⟨x, h0, e⟩ := bnd1_of e
    cases e
    obtain ⟨v, rfl, h1⟩ := repQL1 h
    unfold shownD at h0
    split at h0
    · rename_i d q
      split at h0
      · rename_i hc
        cases h0
        simp only [Bool.and_eq_true, decide_eq_true_eq, Bool.not_eq_true'] at hc
        exact ⟨v, d, rfl, dp_repQ s.rel.le q h1, hc.1.1.1, big_le hc.1.1.2, hc.1.2, hc.2, yld_val s Y (rep_str _)⟩
      · cases h0
    · cases h0
  · cases e
theorem bi_max2 (s : Step κ K F ρ σ H F2 ρ2 σ H2) {ds : List D} {vs : List V} {w : W} {Q : VK} (e : biRun .max2 ds = some w) (h : RepQL κ K F2 H2 ds vs) (Y : Yld κ K F ρ σ H ρ2 (.tmp w) Q) :
    ∃ i j : Int, vs = [.int i, .int j] ∧ Q (.int (if j > i then j else i)) H2 := by
  have e : biMax2 ds = some w := e
  unfold biMax2 at e
  split at e
  · cases e
    obtain ⟨v, w, rfl, h1, h2⟩ := repQL2 h
    exact ⟨_, _, by rw [repQ_int h1, repQ_int h2], yld_val s Y (rep_int _)⟩
  · cases e
theorem bi_min2 (s : Step κ K F ρ σ H F2 ρ2 σ H2) {ds : List D} {vs : List V} {w : W} {Q : VK} (e : biRun .min2 ds = some w) (h : RepQL κ K F2 H2 ds vs) (Y : Yld κ K F ρ σ H ρ2 (.tmp w) Q) :
    ∃ i j : Int, vs = [.int i, .int j] ∧ Q (.int (if j < i then j else i)) H2 := by
  have e : biMin2 ds = some w := e
  unfold biMin2 at e
  split at e
  · cases e
    obtain ⟨v, w, rfl, h1, h2⟩ := repQL2 h
    exact ⟨_, _, by rw [repQ_int h1, repQ_int h2], yld_val s Y (rep_int _)⟩
  · cases e
theorem rep_range (a b : Int) : RepL κ F (rangeD a b) (rgV a b) := by
  unfold rangeD rgV
  generalize List.range (b - a).toNat = l
  induction l with
  | nil => exact repL_nil.mpr rfl
  | cons x xs ih => exact repL_cc.mpr ⟨rep_int _, ih⟩
theorem bi_listRange (s : Step κ K F ρ σ H F2 ρ2 σ H2) {ds : List D} {vs : List V} {w : W} {Q : VK} (e : biRun .listRange ds = some w) (h : RepQL κ K F2 H2 ds vs) (Y : Yld κ K F ρ σ H ρ2 (.tmp w) Q) :
    ∃ n : Int, vs = [.int n] ∧ RgOk 0 n ∧ ∀ q, H2 q = none → Q (.ref q) (upd H2 q (.lst (rgV 0 n))) := by
  have e : biListRange ds = some w := e
  unfold biListRange at e
  split at e
  · obtain ⟨c, e⟩ := req_of e
    cases e
    simp only [Bool.and_eq_true, decide_eq_true_eq] at c
    obtain ⟨v, rfl, h1⟩ := repQL1 h
    exact ⟨_, by rw [repQ_int h1], ⟨by omega, by omega, by omega, by omega, by omega⟩, yld_own s Y (rep_range _ _)⟩
  · cases e
theorem bi_tupleRange (s : Step κ K F ρ σ H F2 ρ2 σ H2) {ds : List D} {vs : List V} {w : W} {Q : VK} (e : biRun .tupleRange ds = some w) (h : RepQL κ K F2 H2 ds vs) (Y : Yld κ K F ρ σ H ρ2 (.tmp w) Q) :
    ∃ n : Int, vs = [.int n] ∧ RgOk 0 n ∧ newT (rgV 0 n) H2 Q := by
  have e : biTupleRange ds = some w := e
  unfold biTupleRange at e
  split at e
  · obtain ⟨c, e⟩ := req_of e
    cases e
    simp only [Bool.and_eq_true, decide_eq_true_eq] at c
    obtain ⟨v, rfl, h1⟩ := repQL1 h
    exact ⟨_, by rw [repQ_int h1], ⟨by omega, by omega, by omega, by omega, by omega⟩, yld_tup s Y (rep_range _ _)⟩
  · cases e

/-! ### methods of texts: of the text x, with the values vs -/
theorem bm_join (s : Step κ K F ρ σ H F2 ρ2 σ H2) {d : D} {ds : List D} {v : V} {vs : List V} {w : W} {Q : VK} (e : bmRun .join d ds = some w) (hd : RepQ κ K F1 H1 d v) (h : RepQL κ K F2 H2 ds vs) (Y : Yld κ K F ρ σ H ρ2 (.tmp w) Q) :
    ∃ a p, ∃ ys : List Str, v = .str a ∧ vs = [.ref p] ∧ (SqL K H2 p (ys.map V.str) ∨ SqT K H2 p (ys.map V.str)) ∧ (ys.map (·.length)).sum + ys.length * a.length ≤ 16777216 ∧ Q (.str (Txt.join a ys)) H2 := by
  have e : bmJoin d ds = some w := e
  unfold bmJoin at e
  split at e
  · obtain ⟨ys, h0, e⟩ := bnd1_of e
    obtain ⟨c, e⟩ := req_of e
    cases e
    obtain ⟨u, rfl, h1⟩ := repQL1 h
    obtain ⟨a, us, rfl, h2, h3⟩ := repQ_lst h1
    rw [repL_strs h0 h3] at h2
    have c := of_decide_eq_true c
    exact ⟨_, a, ys, repQ_str hd, rfl, .inl h2, Nat.le_trans c (by decide), yld_val s Y (rep_str _)⟩
  · cases e
theorem rep_strs : ∀ l : List Str, RepL κ F (l.map D.str) (l.map V.str)
  | [] => repL_nil.mpr rfl
  | x :: xs => repL_cc.mpr ⟨rep_str x, rep_strs xs⟩
theorem bm_split (s : Step κ K F ρ σ H F2 ρ2 σ H2) {d : D} {ds : List D} {v : V} {vs : List V} {w : W} {Q : VK} (e : bmRun .split d ds = some w) (hd : RepQ κ K F1 H1 d v) (h : RepQL κ K F2 H2 ds vs) (Y : Yld κ K F ρ σ H ρ2 (.tmp w) Q) :
    ∃ a b, v = .str a ∧ vs = [.str b] ∧ (b.length == 0) = false ∧ a.length + 2 ≤ sizeLine ∧ rNewStrs (Txt.split a b) H2 Q := by
  have e : bmSplit d ds = some w := e
  unfold bmSplit at e
  split at e
  · obtain ⟨c, e⟩ := req_of e
    cases e
    simp only [Bool.and_eq_true, decide_eq_true_eq] at c
    obtain ⟨u, rfl, h1⟩ := repQL1 h
    have hb : (big : Nat) = 1000000 := rfl
    exact ⟨_, _, repQ_str hd, by rw [repQ_str h1], by simp; omega, by rw [sizeLine_eq]; omega, yld_own s Y (rep_strs _)⟩
  · cases e
theorem bm_starts (s : Step κ K F ρ σ H F2 ρ2 σ H2) {d : D} {ds : List D} {v : V} {vs : List V} {w : W} {Q : VK} (e : bmRun .startswith d ds = some w) (hd : RepQ κ K F1 H1 d v) (h : RepQL κ K F2 H2 ds vs) (Y : Yld κ K F ρ σ H ρ2 (.tmp w) Q) :
    ∃ a b, v = .str a ∧ vs = [.str b] ∧ Q (.bl (Txt.startswith a b)) H2 := by
  have e : bmStarts d ds = some w := e
  unfold bmStarts at e
  split at e
  · cases e
    obtain ⟨u, rfl, h1⟩ := repQL1 h
    exact ⟨_, _, repQ_str hd, by rw [repQ_str h1], yld_val s Y (rep_bl _)⟩
  · cases e
theorem bm_ends (s : Step κ K F ρ σ H F2 ρ2 σ H2) {d : D} {ds : List D} {v : V} {vs : List V} {w : W} {Q : VK} (e : bmRun .endswith d ds = some w) (hd : RepQ κ K F1 H1 d v) (h : RepQL κ K F2 H2 ds vs) (Y : Yld κ K F ρ σ H ρ2 (.tmp w) Q) :
    ∃ a b, v = .str a ∧ vs = [.str b] ∧ Q (.bl (Txt.endswith a b)) H2 := by
  have e : bmEnds d ds = some w := e
  unfold bmEnds at e
  split at e
  · cases e
    obtain ⟨u, rfl, h1⟩ := repQL1 h
    exact ⟨_, _, repQ_str hd, by rw [repQ_str h1], yld_val s Y (rep_bl _)⟩
  · cases e

/-! ### slices -/
def rSlAll (K : PySem.W.Frag) : V → Option Int → Option Int → Hp → VK → Prop := fun x lo hi H Q => rSlF K x lo hi H Q ∨ rSlL K x lo hi H Q ∨ ∃ z, x = .str z ∧ z.length ≤ sizeLine ∧ Q (.str (Txt.slice z lo hi)) H
theorem cut_whole {α : Type} {ds : List α} {lo hi : Option Int} (h : HT.sIx ds.length 0 lo = 0 ∧ HT.sIx ds.length ds.length hi = ds.length) : cutD ds lo hi = ds := by
  unfold cutD
  rw [h.1, h.2]
  simp
theorem sl_ok (s : Step κ K F ρ σ H F2 ρ2 σ H2) {d : D} {lo hi : Option Int} {v : V} {w : W} {Q : VK} (e : slD d lo hi = some w) (h : RepQ κ K F2 H2 d v) (Y : Yld κ K F ρ σ H ρ2 (.tmp w) Q) : rSlAll K v lo hi H2 Q := by
  unfold slD at e
  split at e
  · cases e
    obtain ⟨a, us, rfl, h2, h3⟩ := repQ_tup s.rel.le h
    refine .inl ⟨a, us, rfl, h2, fun z => ?_, fun z => yld_tup s Y (h3.cut lo hi)⟩
    rw [← h3.length] at z
    rw [cut_whole z] at Y
    exact yld_val s Y h
  · cases e
    obtain ⟨a, us, rfl, h2, h3⟩ := repQ_lst h
    exact .inr (.inl ⟨a, us, rfl, h2, yld_own s Y (h3.cut lo hi)⟩)
  · split at e
    · cases e
      exact .inr (.inr ⟨_, repQ_str h, big_le (by assumption), yld_val s Y (rep_str _)⟩)
    · cases e
  · cases e
end
end DT

end
section
/-! DT: expressions, one rule for each form. -/
namespace DT
open PySem PySem.Spec PyProof.Rows L2

/-! ### the call of a def of the module -/
section
variable {X : Cx} {pins : List (Addr × Obj)} {σ : L2.St} {H : Hp} {s : Shared} {κ : Cs} {gb : Bool} {k : Nat} {f : Addr} {fn : Fn}
theorem run_fnG {Q : VK} {us : List Value} {vs : List V} (F : FnG X.prog X.w X.K X.mg X.base κ gb k f fn) (hr : Room k X.A) (hgd : gb = true → X.A.guards = some []) (I : Inv X pins σ H s) (r : Vals vs us) (h : SpF κ X.K fn vs H Q) :
    codeAny (model X.prog X.w) X.A (.call (.ref f) ⟨us, []⟩) (fun r s' => match r with | .ok (.ret v) => EP X pins σ Q v s' | .ok _ => False | .error e => X.xe e s') s := by
  refine codeAny_mono (F X.A X.stack s H us vs Q hr hgd I.env0 r h) fun r s' hq => ?_
  cases r with
  | error e => exact False.elim hq
  | ok fl =>
    cases fl with
    | ret u => exact I.after hq
    | next => exact False.elim hq
    | brk => exact False.elim hq
    | cont => exact False.elim hq
theorem pe_callF {x : Str} {p pos : Pos} {e : Expr} {es : List Expr} {t : TA} (F : FnG X.prog X.w X.K X.mg X.base κ gb k f fn) (hr : Room k X.A) (hgd : gb = true → X.A.guards = some []) (hk : PySem.W.keepIn X.K (.ref f) = true) (hg : Gl X x) (hm : X.mg x = some (.ref f)) (ha : PA X (e :: es) t)
    (hd : (x == ("__debug__" : Str)) = false) (he : starEach (e :: es) X.env = (false, eval e X.env) :: starEach es X.env) (hst : (backTo pos (starEach es X.env)).any (·.1) = false) :
    PE X (.Call (.Name x p) (e :: es) [] pos) (fun σ H Q => t σ H fun vs H1 => SpF κ X.K fn vs H1 Q) := by
  refine ⟨fun pins s σ H Q I h => ?_⟩
  refine wpAny_Call_Name_kw (ld_glob I hg hm ?_ hd)
  refine PySem.W.callWith_K (h₀ := X.base) I.ok.mod.kin hk (thn (ha.run pos pins s σ H _ I h) fun us s1 ⟨vs, H1, I1, r, q⟩ => ⟨I1.kIn, ?_⟩) he hst
  exact wpAny_call (run_fnG F hr hgd I1 r q)
end

/-! ### the two uses of an expression: as a value, as a test -/
def isBO : Expr → Bool
  | .BoolOp .. => true | _ => false
theorem bo_no {x : Expr} (hp : plainTest x = true) : isBO x = false := by
  cases x <;> first
    | rfl
    | cases hp
section
variable {κ : Cs} {Γ : Nat → Option Fn} {nm : Nm} {gl : Str → Option D} {L : Nat} {N : List Str} {X : Cx} {sc : Scope} {fp : Str → Bool}
def SndE (κ : Cs) (Γ : Nat → Option Fn) (gl : Str → Option D) (X : Cx) (t : Bool) (e : E) (x : Expr) : Prop :=
  (t = false → PE X x (TEv κ Γ gl X.K e)) ∧ (t = true → PT X x (TTv κ Γ gl X.K e) ∧ (isBO x = true → PW X x (TTv κ Γ gl X.K e)))
theorem snd_plain {t : Bool} {e : E} {x : Expr} (h : PE X x (TEv κ Γ gl X.K e)) (hp : plainTest x = true) : SndE κ Γ gl X t e x :=
  ⟨fun _ => h, fun _ => ⟨tt_of h hp, fun z => by rw [bo_no hp] at z; cases z⟩⟩
theorem SndE.pe {e : E} {x : Expr} (h : SndE κ Γ gl X false e x) : PE X x (TEv κ Γ gl X.K e) := h.1 rfl
theorem SndE.pt {e : E} {x : Expr} (h : SndE κ Γ gl X true e x) : PT X x (TTv κ Γ gl X.K e) := (h.2 rfl).1

theorem s_var (G : Good κ Γ nm gl L N X sc fp) {t : Bool} {i : Nat} {x : Expr} (h : agE N nm sc fp t (.var i) x = true) : SndE κ Γ gl X t (.var i) x := by
  unfold agE at h
  cases x with
  | Name n pos =>
    simp only [Bool.and_eq_true, decide_eq_true_eq] at h
    refine snd_plain (PE.imp (pe_var (i := i) (by rw [G.hN]; exact h.1.1) (G.vis h.1.2) (okName_1 h.2) (okName_2 h.2)) fun σ H Q q => ?_) rfl
    obtain ⟨F, ρ, p, ρ', rel, e, Y⟩ := q
    unfold evE at e
    obtain ⟨w, h1, e⟩ := bnd1_of e
    cases e
    obtain ⟨v, h2, h3⟩ := rel.slot i w (slot_get h1)
    exact ⟨v, h2, Y F H v (.refl rel) h2⟩
  | _ => cases h
theorem s_cst {t : Bool} {d : D} {x : Expr} (h : agE N nm sc fp t (.cst d) x = true) : SndE κ Γ gl X t (.cst d) x := by
  unfold agE at h
  cases x with
  | Constant c k pos =>
    have fin : ∀ {v : V}, PE X (.Constant c k pos) (tC v) → (∀ F, Rep κ F d v) → SndE κ Γ gl X t (.cst d) (.Constant c k pos) := fun {v} hp hd => by
      refine snd_plain (PE.imp hp fun σ H Q q => ?_) rfl
      obtain ⟨F, ρ, p, ρ', rel, e, Y⟩ := q
      unfold evE at e
      cases e
      exact Y F H v (.refl rel) (hd F)
    have h : constD c d = true := h
    unfold constD at h
    split at h
    · exact fin pe_non fun F => rep_non
    · rw [beq_iff_eq] at h; subst h; exact fin pe_bl fun F => rep_bl _
    · have h := of_decide_eq_true h; subst h; exact fin pe_int fun F => rep_int _
    · have h := of_decide_eq_true h; subst h; exact fin pe_str fun F => rep_str _
    · cases h
  | _ => cases h
theorem s_glob (G : Good κ Γ nm gl L N X sc fp) {t : Bool} {n : Str} {x : Expr} (h : agE N nm sc fp t (.glob n) x = true) : SndE κ Γ gl X t (.glob n) x := by
  unfold agE at h
  cases x with
  | Name m pos =>
    simp only [Bool.and_eq_true, decide_eq_true_eq] at h
    obtain ⟨⟨h1, h2⟩, h3⟩ := h
    subst h1
    cases hg : gl n with
    | none =>
      refine snd_plain ⟨fun pins s σ H Q I q => ?_⟩ rfl
      obtain ⟨F, ρ, p, ρ', rel, e, Y⟩ := q
      unfold evE at e
      obtain ⟨w, h1, e⟩ := bnd1_of e
      rw [hg] at h1
      cases h1
    | some d =>
      obtain ⟨u, v, m1, m2, m3⟩ := G.tab.gls n d hg
      refine snd_plain (PE.imp (pe_glob (G.gl' h2) m1 m2 (okName_1 h3)) fun σ H Q q => ?_) rfl
      obtain ⟨F, ρ, p, ρ', rel, e, Y⟩ := q
      unfold evE at e
      obtain ⟨w, h1, e⟩ := bnd1_of e
      cases e
      rw [hg] at h1
      cases h1
      exact Y F H v (.refl rel) (m3 F)
  | _ => cases h
theorem s_tup {t : Bool} {es : List E} {xs : List Expr} {kk : Nat} {pos : Pos} (h : PA X xs (TAv κ Γ gl X.K es)) : SndE κ Γ gl X t (.tup es) (.Tuple xs kk pos) := by
  refine snd_plain (PE.imp (pe_tupF h) fun σ H Q q => ?_) rfl
  obtain ⟨F, ρ, p, ρ', rel, e, Y⟩ := q
  unfold evE at e
  obtain ⟨ps, ρ1, h1, e⟩ := bnd2_of e
  obtain ⟨ds, ρ2, h2, e⟩ := bnd2_of e
  obtain ⟨c, e⟩ := req_of e
  cases e
  refine ⟨F, ρ, ps, ρ1, rel, h1, fun F1 H1 vs s1 r1 => ?_⟩
  obtain ⟨F2, s2, hv, _⟩ := toVals_step s1 r1 h2
  exact ⟨by rw [← hv.length]; exact big_le (of_decide_eq_true c), yld_tup s2 Y hv⟩
theorem s_lst {t : Bool} {es : List E} {xs : List Expr} {pos : Pos} (h : PA X xs (TAv κ Γ gl X.K es)) : SndE κ Γ gl X t (.lst es) (.List xs pos) := by
  refine snd_plain (PE.imp (pe_lst h) fun σ H Q q => ?_) rfl
  obtain ⟨F, ρ, p, ρ', rel, e, Y⟩ := q
  unfold evE at e
  obtain ⟨ps, ρ1, h1, e⟩ := bnd2_of e
  obtain ⟨ds, ρ2, h2, e⟩ := bnd2_of e
  obtain ⟨c, e⟩ := req_of e
  cases e
  refine ⟨F, ρ, ps, ρ1, rel, h1, fun F1 H1 vs s1 r1 => ?_⟩
  obtain ⟨F2, s2, hv, _⟩ := toVals_step s1 r1 h2
  exact ⟨by rw [← hv.length]; exact big_le (of_decide_eq_true c), yld_own s2 Y hv⟩
theorem s_bin {t : Bool} {o : Op2} {a b : E} {x y : Expr} {pos : Pos} (ha : PE X x (TEv κ Γ gl X.K a)) (hb : PE X y (TEv κ Γ gl X.K b)) : SndE κ Γ gl X t (.bin o a b) (.BinOp x (opOf o) y pos) := by
  refine snd_plain (PE.imp (pe_op (op_all o) ha hb) fun σ H Q q => ?_) rfl
  obtain ⟨F, ρ, p, ρ', rel, e, Y⟩ := q
  unfold evE at e
  obtain ⟨p1, ρ1, h1, e⟩ := bnd2_of e
  obtain ⟨p2, ρ2, h2, e⟩ := bnd2_of e
  obtain ⟨d1, g1, e⟩ := bnd1_of e
  obtain ⟨d2, g2, e⟩ := bnd1_of e
  obtain ⟨w, g3, e⟩ := bnd1_of e
  cases e
  exact two rel h1 h2 fun F2 H2 u v s2 r1 r2 => bin_ok s2 g3 (getC_rep s2.rel r1 g1) (getC_rep s2.rel r2 g2) Y
theorem s_neg {a : E} {x : Expr} {pos : Pos} (ha : PE X x (TEv κ Γ gl X.K a)) : PE X (.UnaryOp .USub x pos) (TEv κ Γ gl X.K (.neg a)) := by
  refine PE.imp (pe_un un_neg ha) fun σ H Q q => ?_
  obtain ⟨F, ρ, p, ρ', rel, e, Y⟩ := q
  unfold evE at e
  obtain ⟨p1, ρ1, h1, e⟩ := bnd2_of e
  obtain ⟨d1, g1, e⟩ := bnd1_of e
  obtain ⟨i, g2, e⟩ := bnd1_of e
  cases e
  refine one rel h1 fun F1 H1 u s1 r1 => ?_
  rw [intD_of g2] at g1
  exact ⟨i, repQ_int (getQ_rep (K := X.K) s1.rel r1 g1), yld_val s1 Y (rep_int _)⟩
theorem s_cmp (hu : X.A.units + 65 < cLine) {t : Bool} {o : Cm} {a b : E} {x y : Expr} {pos : Pos} (ha : PE X x (TEv κ Γ gl X.K a)) (hb : PE X y (TEv κ Γ gl X.K b)) (hs : notSet y = true) : SndE κ Γ gl X t (.cmp o a b) (.Compare x [cmOf o] [y] pos) := by
  refine ⟨fun _ => PE.imp (pe_cmpR (cm_all hu o) ha hb (mark_no hs _)) fun σ H Q q => ?_, fun _ => ⟨PT.imp (pt_cmpR (cm_all hu o) ha hb (mark_no hs _)) fun σ H Q q => ?_, fun z => by cases z⟩⟩
  · obtain ⟨F, ρ, p, ρ', rel, e, Y⟩ := q
    unfold evE at e
    obtain ⟨p1, ρ1, h1, e⟩ := bnd2_of e
    obtain ⟨p2, ρ2, h2, e⟩ := bnd2_of e
    obtain ⟨d1, g1, e⟩ := bnd1_of e
    obtain ⟨d2, g2, e⟩ := bnd1_of e
    obtain ⟨w, g3, e⟩ := bnd1_of e
    cases e
    exact two rel h1 h2 fun F2 H2 u v s2 r1 r2 => cmp_ok s2.rel.le g3 (getQ_rep s2.rel r1 g1) (getQ_rep s2.rel r2 g2) (yld_val s2 Y (rep_bl _))
  · obtain ⟨F, ρ, c, ρ', rel, e, Y⟩ := q
    obtain ⟨p, e, hp⟩ := tst_of e
    unfold evE at e
    obtain ⟨p1, ρ1, h1, e⟩ := bnd2_of e
    obtain ⟨p2, ρ2, h2, e⟩ := bnd2_of e
    obtain ⟨d1, g1, e⟩ := bnd1_of e
    obtain ⟨d2, g2, e⟩ := bnd1_of e
    obtain ⟨w, g3, e⟩ := bnd1_of e
    cases e
    cases hp
    exact two (R := fun u v H2 => rCm X.K o u v H2 fun z H' => ∃ k, z = .bl k ∧ Q k H') rel h1 h2 fun F2 H2 u v s2 r1 r2 => cmp_ok s2.rel.le g3 (getQ_rep s2.rel r1 g1) (getQ_rep s2.rel r2 g2) ⟨_, rfl, Y F2 H2 s2⟩
/-- a chain's inner run -/
theorem chain_run {o o2 : Cm} {a b c : E} {σ : L2.St} {H : Hp} {Q : VK} {F : Hp} {ρ ρ' : Ro} {p : Pl} (rel : Rel κ X.K F ρ σ H) (e : evE Γ gl (.chain o o2 a b c) ρ = some (p, ρ'))
    (Y : ∀ F' H' k, Step κ X.K F ρ σ H F' ρ' σ H' → p = .tmp (.val (.bl k)) → Q (.bl k) H') : tChain (rCm X.K o) (rCm X.K o2) (TEv κ Γ gl X.K a) (TEv κ Γ gl X.K b) (TEv κ Γ gl X.K c) σ H Q := by
  unfold evE at e
  obtain ⟨p1, ρ1, h1, e⟩ := bnd2_of e
  obtain ⟨p2, ρ2, h2, e⟩ := bnd2_of e
  obtain ⟨d1, g1, e⟩ := bnd1_of e
  obtain ⟨d2, g2, e⟩ := bnd1_of e
  obtain ⟨k, g3, e⟩ := bnd1_of e
  refine two rel h1 h2 fun F2 H2 u v s2 r1 r2 => cmp_ok s2.rel.le g3 (getQ_rep s2.rel r1 g1) (getQ_rep s2.rel r2 g2) ⟨k, rfl, ?_⟩
  cases k with
  | false =>
    cases e
    exact Y F2 H2 _ s2 rfl
  | true =>
    obtain ⟨p3, ρ3, h3, e⟩ := bnd2_of e
    obtain ⟨d2', g4, e⟩ := bnd1_of e
    obtain ⟨d3, g5, e⟩ := bnd1_of e
    obtain ⟨k, g6, e⟩ := bnd1_of e
    cases e
    exact one s2.rel h3 fun F3 H3 z s3 r3 => cmp_ok s3.rel.le g6 (getQ_rep s3.rel (r2.step s3) g4) (getQ_rep s3.rel r3 g5) (Y F3 H3 _ (s2.trans s3) rfl)
theorem s_chain (hu : X.A.units + 65 < cLine) {t : Bool} {o o2 : Cm} {a b c : E} {x y z : Expr} {pos : Pos} (ha : PE X x (TEv κ Γ gl X.K a)) (hb : PE X y (TEv κ Γ gl X.K b)) (hc : PE X z (TEv κ Γ gl X.K c)) (hm : lastMarks [cmOf o, cmOf o2] [y, z] = false) :
    SndE κ Γ gl X t (.chain o o2 a b c) (.Compare x [cmOf o, cmOf o2] [y, z] pos) := by
  refine ⟨fun _ => PE.imp (pe_chain (cm_all hu o) (cm_all hu o2) ha hb hc hm) fun σ H Q q => ?_, fun _ => ⟨PT.imp (pt_chain (cm_all hu o) (cm_all hu o2) ha hb hc hm) fun σ H Q q => ?_, fun z => by cases z⟩⟩
  · obtain ⟨F, ρ, p, ρ', rel, e, Y⟩ := q
    exact chain_run rel e fun F' H' k s ep => by subst ep; exact yld_val s Y (rep_bl _)
  · obtain ⟨F, ρ, c, ρ', rel, e, Y⟩ := q
    obtain ⟨p, e, hp⟩ := tst_of e
    exact chain_run (Q := fun x H' => ∃ k, x = .bl k ∧ Q k H') rel e fun F' H' k s ep => by subst ep; cases hp; exact ⟨_, rfl, Y F' H' s⟩
theorem s_and (op : BoolOp) (hop : op = .And) {t : Bool} {a b : E} {x y : Expr} {pos : Pos} (ha : SndE κ Γ gl X t a x) (hb : SndE κ Γ gl X t b y) : SndE κ Γ gl X t (.and a b) (.BoolOp op [x, y] pos) := by
  subst hop
  refine ⟨fun ht => PE.imp (pe_and (ha.1 ht) (pe_one (hb.1 ht))) fun σ H Q q => ?_, fun ht => ?_⟩
  · obtain ⟨F, ρ, p, ρ', rel, e, Y⟩ := q
    unfold evE at e
    obtain ⟨k, ρ1, h1, e⟩ := bnd2_of e
    refine tst_val rel h1 fun F1 H1 s1 => ⟨k, rfl, ?_⟩
    cases k with
    | false => cases e; exact yld_val s1 Y (rep_bl _)
    | true =>
      obtain ⟨c, ρ2, h2, e⟩ := bnd2_of e
      cases e
      exact tst_val s1.rel h2 fun F2 H2 s2 => yld_val (s1.trans s2) Y (rep_bl _)
  · have key : PW X (.BoolOp .And [x, y] pos) (TTv κ Γ gl X.K (.and a b)) := PW.imp (pw_and (ha.2 ht).1 (pw_and1 (hb.2 ht).1)) fun σ H Q q => by
      obtain ⟨F, ρ, c, ρ', rel, e, Y⟩ := q
      obtain ⟨p, e, hp⟩ := tst_of e
      unfold evE at e
      obtain ⟨k, ρ1, h1, e⟩ := bnd2_of e
      refine ⟨F, ρ, k, ρ1, rel, h1, fun F1 H1 s1 => ?_⟩
      cases k with
      | false => cases e; cases hp; exact Y F1 H1 s1
      | true =>
        obtain ⟨c, ρ2, h2, e⟩ := bnd2_of e
        cases e
        cases hp
        exact ⟨F1, ρ1, _, _, s1.rel, h2, fun F2 H2 s2 => Y F2 H2 (s1.trans s2)⟩
    exact ⟨key.pt, fun _ => key⟩
theorem s_and3 (op : BoolOp) (hop : op = .And) {t : Bool} {a b : E} {x y z : Expr} {r : List Expr} {pos : Pos} (ha : SndE κ Γ gl X t a x) (hb : SndE κ Γ gl X t b (.BoolOp op (y :: z :: r) pos)) : SndE κ Γ gl X t (.and a b) (.BoolOp op (x :: y :: z :: r) pos) := by
  subst hop
  refine ⟨fun ht => PE.imp (pe_and (ha.1 ht) (hb.1 ht)) fun σ H Q q => ?_, fun ht => ?_⟩
  · obtain ⟨F, ρ, p, ρ', rel, e, Y⟩ := q
    unfold evE at e
    obtain ⟨k, ρ1, h1, e⟩ := bnd2_of e
    refine tst_val rel h1 fun F1 H1 s1 => ⟨k, rfl, ?_⟩
    cases k with
    | false => cases e; exact yld_val s1 Y (rep_bl _)
    | true =>
      obtain ⟨c, ρ2, h2, e⟩ := bnd2_of e
      cases e
      exact tst_val s1.rel h2 fun F2 H2 s2 => yld_val (s1.trans s2) Y (rep_bl _)
  · have key : PW X (.BoolOp .And (x :: y :: z :: r) pos) (TTv κ Γ gl X.K (.and a b)) := PW.imp (pw_and (ha.2 ht).1 ((hb.2 ht).2 rfl)) fun σ H Q q => by
      obtain ⟨F, ρ, c, ρ', rel, e, Y⟩ := q
      obtain ⟨p, e, hp⟩ := tst_of e
      unfold evE at e
      obtain ⟨k, ρ1, h1, e⟩ := bnd2_of e
      refine ⟨F, ρ, k, ρ1, rel, h1, fun F1 H1 s1 => ?_⟩
      cases k with
      | false => cases e; cases hp; exact Y F1 H1 s1
      | true =>
        obtain ⟨c, ρ2, h2, e⟩ := bnd2_of e
        cases e
        cases hp
        exact ⟨F1, ρ1, _, _, s1.rel, h2, fun F2 H2 s2 => Y F2 H2 (s1.trans s2)⟩
    exact ⟨key.pt, fun _ => key⟩
theorem s_or (op : BoolOp) (hop : op = .Or) {t : Bool} {a b : E} {x y : Expr} {pos : Pos} (ha : SndE κ Γ gl X t a x) (hb : SndE κ Γ gl X t b y) : SndE κ Γ gl X t (.or a b) (.BoolOp op [x, y] pos) := by
  subst hop
  refine ⟨fun ht => PE.imp (pe_or (ha.1 ht) (pe_one (hb.1 ht))) fun σ H Q q => ?_, fun ht => ?_⟩
  · obtain ⟨F, ρ, p, ρ', rel, e, Y⟩ := q
    unfold evE at e
    obtain ⟨k, ρ1, h1, e⟩ := bnd2_of e
    refine tst_val rel h1 fun F1 H1 s1 => ⟨k, rfl, ?_⟩
    cases k with
    | true => cases e; exact yld_val s1 Y (rep_bl _)
    | false =>
      obtain ⟨c, ρ2, h2, e⟩ := bnd2_of e
      cases e
      exact tst_val s1.rel h2 fun F2 H2 s2 => yld_val (s1.trans s2) Y (rep_bl _)
  · have key : PW X (.BoolOp .Or [x, y] pos) (TTv κ Γ gl X.K (.or a b)) := PW.imp (pw_or (ha.2 ht).1 (pw_or1 (hb.2 ht).1)) fun σ H Q q => by
      obtain ⟨F, ρ, c, ρ', rel, e, Y⟩ := q
      obtain ⟨p, e, hp⟩ := tst_of e
      unfold evE at e
      obtain ⟨k, ρ1, h1, e⟩ := bnd2_of e
      refine ⟨F, ρ, k, ρ1, rel, h1, fun F1 H1 s1 => ?_⟩
      cases k with
      | true => cases e; cases hp; exact Y F1 H1 s1
      | false =>
        obtain ⟨c, ρ2, h2, e⟩ := bnd2_of e
        cases e
        cases hp
        exact ⟨F1, ρ1, _, _, s1.rel, h2, fun F2 H2 s2 => Y F2 H2 (s1.trans s2)⟩
    exact ⟨key.pt, fun _ => key⟩
theorem s_or3 (op : BoolOp) (hop : op = .Or) {t : Bool} {a b : E} {x y z : Expr} {r : List Expr} {pos : Pos} (ha : SndE κ Γ gl X t a x) (hb : SndE κ Γ gl X t b (.BoolOp op (y :: z :: r) pos)) : SndE κ Γ gl X t (.or a b) (.BoolOp op (x :: y :: z :: r) pos) := by
  subst hop
  refine ⟨fun ht => PE.imp (pe_or (ha.1 ht) (hb.1 ht)) fun σ H Q q => ?_, fun ht => ?_⟩
  · obtain ⟨F, ρ, p, ρ', rel, e, Y⟩ := q
    unfold evE at e
    obtain ⟨k, ρ1, h1, e⟩ := bnd2_of e
    refine tst_val rel h1 fun F1 H1 s1 => ⟨k, rfl, ?_⟩
    cases k with
    | true => cases e; exact yld_val s1 Y (rep_bl _)
    | false =>
      obtain ⟨c, ρ2, h2, e⟩ := bnd2_of e
      cases e
      exact tst_val s1.rel h2 fun F2 H2 s2 => yld_val (s1.trans s2) Y (rep_bl _)
  · have key : PW X (.BoolOp .Or (x :: y :: z :: r) pos) (TTv κ Γ gl X.K (.or a b)) := PW.imp (pw_or (ha.2 ht).1 ((hb.2 ht).2 rfl)) fun σ H Q q => by
      obtain ⟨F, ρ, c, ρ', rel, e, Y⟩ := q
      obtain ⟨p, e, hp⟩ := tst_of e
      unfold evE at e
      obtain ⟨k, ρ1, h1, e⟩ := bnd2_of e
      refine ⟨F, ρ, k, ρ1, rel, h1, fun F1 H1 s1 => ?_⟩
      cases k with
      | true => cases e; cases hp; exact Y F1 H1 s1
      | false =>
        obtain ⟨c, ρ2, h2, e⟩ := bnd2_of e
        cases e
        cases hp
        exact ⟨F1, ρ1, _, _, s1.rel, h2, fun F2 H2 s2 => Y F2 H2 (s1.trans s2)⟩
    exact ⟨key.pt, fun _ => key⟩
theorem s_not {t : Bool} {a : E} {x : Expr} {pos : Pos} (ha : SndE κ Γ gl X t a x) : SndE κ Γ gl X t (.not a) (.UnaryOp .Not x pos) := by
  refine ⟨fun ht => PE.imp (pe_not (ha.1 ht)) fun σ H Q q => ?_, fun ht => ⟨PT.imp (pt_not (ha.2 ht).1) fun σ H Q q => ?_, fun z => by cases z⟩⟩
  · obtain ⟨F, ρ, p, ρ', rel, e, Y⟩ := q
    unfold evE at e
    obtain ⟨k, ρ1, h1, e⟩ := bnd2_of e
    cases e
    exact tst_val rel h1 fun F1 H1 s1 => ⟨_, rfl, yld_val s1 Y (rep_bl _)⟩
  · obtain ⟨F, ρ, c, ρ', rel, e, Y⟩ := q
    obtain ⟨p, e, hp⟩ := tst_of e
    unfold evE at e
    obtain ⟨k, ρ1, h1, e⟩ := bnd2_of e
    cases e
    cases hp
    exact ⟨F, ρ, _, _, rel, h1, fun F1 H1 s1 => Y F1 H1 s1⟩
theorem s_ife {a b c : E} {x y z : Expr} {pos : Pos} (hc : PT X z (TTv κ Γ gl X.K c)) (ha : PE X x (TEv κ Γ gl X.K a)) (hb : PE X y (TEv κ Γ gl X.K b)) : PE X (.IfExp z x y pos) (TEv κ Γ gl X.K (.ife c a b)) := by
  refine PE.imp (pe_ifExp hc ha hb) fun σ H Q q => ?_
  obtain ⟨F, ρ, p, ρ', rel, e, Y⟩ := q
  unfold evE at e
  obtain ⟨k, ρ1, h1, e⟩ := bnd2_of e
  refine ⟨F, ρ, k, ρ1, rel, h1, fun F1 H1 s1 => ?_⟩
  cases k with
  | true => exact ⟨F1, ρ1, p, ρ', s1.rel, e, fun F2 H2 v s2 r2 => Y F2 H2 v (s1.trans s2) (r2.early fun a z => s1.none_back z)⟩
  | false => exact ⟨F1, ρ1, p, ρ', s1.rel, e, fun F2 H2 v s2 r2 => Y F2 H2 v (s1.trans s2) (r2.early fun a z => s1.none_back z)⟩
theorem s_ix (hu : X.A.units + 1 < cLine) {t : Bool} {a b : E} {x y : Expr} {pos : Pos} (ha : PE X x (TEv κ Γ gl X.K a)) (hb : PE X y (TEv κ Γ gl X.K b)) (hs : notSlice y = true) : SndE κ Γ gl X t (.ix a b) (.Subscript x y pos) := by
  refine snd_plain (PE.imp (pe_ix (ix_seq.or (ix_dic hu)) ha hb (ix_no hs)) fun σ H Q q => ?_) rfl
  obtain ⟨F, ρ, p, ρ', rel, e, Y⟩ := q
  unfold evE at e
  obtain ⟨p1, ρ1, h1, e⟩ := bnd2_of e
  obtain ⟨p2, ρ2, h2, e⟩ := bnd2_of e
  obtain ⟨d1, g1, e⟩ := bnd1_of e
  obtain ⟨d2, g2, e⟩ := bnd1_of e
  obtain ⟨d, g3, e⟩ := bnd1_of e
  cases e
  exact two rel h1 h2 fun F2 H2 u v s2 r1 r2 => ix_ok s2 g3 (getQ_rep s2.rel r1 g1) (getQ_rep s2.rel r2 g2) Y
theorem s_sl {t : Bool} {a lo hi : E} {x : Expr} {l h : Option Expr} {pos p2 : Pos} (ha : PE X x (TEv κ Γ gl X.K a)) (hl : PO X l (TOv κ Γ gl X.K lo)) (hh : PO X h (TOv κ Γ gl X.K hi)) : SndE κ Γ gl X t (.sl a lo hi) (.Subscript x (.Slice l h none p2) pos) := by
  refine snd_plain (PE.imp (pe_slice (r := rSlAll X.K) (sl_tupF.or (sl_list.or C8.sl_txt)) ha hl hh) fun σ H Q q => ?_) rfl
  obtain ⟨F, ρ, p, ρ', rel, e, Y⟩ := q
  unfold evE at e
  obtain ⟨p1, ρ1, h1, e⟩ := bnd2_of e
  obtain ⟨o1, ρ2, h2, e⟩ := bnd2_of e
  obtain ⟨o2, ρ3, h3, e⟩ := bnd2_of e
  obtain ⟨d, g1, e⟩ := bnd1_of e
  obtain ⟨w, g2, e⟩ := bnd1_of e
  cases e
  refine one rel h1 fun F1 H1 u s1 r1 => ⟨F1, ρ1, o1, ρ2, s1.rel, h2, fun F2 H2 s2 => ⟨F2, ρ2, o2, _, s2.rel, h3, fun F3 H3 s3 => ?_⟩⟩
  have s := s1.trans (s2.trans s3)
  exact sl_ok s g2 (getQ_rep s.rel (r1.step (s2.trans s3)) g1) Y
end
end DT

end
section
/-! DT: argument lists, calls, comprehensions; the theorem about expressions. -/
namespace DT
open PySem PySem.Spec PyProof.Rows L2

section
variable {κ : Cs} {Γ : Nat → Option Fn} {nm : Nm} {gl : Str → Option D} {L : Nat} {N : List Str} {X : Cx} {sc : Scope} {fp : Str → Bool}

/-! ### lists of expressions -/
theorem a_nil : PA X [] (TAv κ Γ gl X.K []) := PA.imp pa_nil fun σ H Q q => by
  obtain ⟨F, ρ, ps, ρ', rel, e, k⟩ := q
  unfold evEs at e
  cases e
  exact k F H [] (.refl rel) .nil
theorem a_cons {e : E} {es : List E} {x : Expr} {xs : List Expr} (hn : ∀ ρ, evEs Γ gl (e :: es) ρ = bnd2 (evE Γ gl e ρ) fun p ρ1 => bnd2 (evEs Γ gl es ρ1) fun ps ρ2 => some (p :: ps, ρ2)) (hx : notStar x = true)
    (h1 : PE X x (TEv κ Γ gl X.K e)) (h2 : PA X xs (TAv κ Γ gl X.K es)) : PA X (x :: xs) (TAv κ Γ gl X.K (e :: es)) := PA.imp (pa_cons h1 h2 (star_no hx xs X.env)) fun σ H Q q => by
  obtain ⟨F, ρ, ps, ρ', rel, e, k⟩ := q
  rw [hn] at e
  obtain ⟨p, ρ1, g1, e⟩ := bnd2_of e
  obtain ⟨qs, ρ2, g2, e⟩ := bnd2_of e
  cases e
  exact ⟨F, ρ, p, ρ1, rel, g1, fun F1 H1 u s1 r1 => ⟨F1, ρ1, qs, _, s1.rel, g2, fun F2 H2 us s2 r2 => k F2 H2 (u :: us) (s1.trans s2) (.cons (r1.step s2).weak (r2.early fun a z => s1.none_back z))⟩⟩
theorem a_star {e : E} {es : List E} {x : Expr} {xs : List Expr} {pos : Pos} (h1 : PE X x (TEv κ Γ gl X.K e)) (h2 : PA X xs (TAv κ Γ gl X.K es)) : PA X (.Starred x pos :: xs) (TAv κ Γ gl X.K (.star e :: es)) :=
  PA.imp (StX.pa_star h1 h2) fun σ H Q q => by
  obtain ⟨F, ρ, ps, ρ', rel, e, k⟩ := q
  unfold evEs at e
  obtain ⟨p, ρ1, g1, e⟩ := bnd2_of e
  obtain ⟨d, g2, e⟩ := bnd1_of e
  obtain ⟨ds, g3, e⟩ := bnd1_of e
  obtain ⟨qs, ρ2, g4, e⟩ := bnd2_of e
  cases e
  refine ⟨F, ρ, p, ρ1, rel, g1, fun F1 H1 u s1 r1 => ?_⟩
  have z := getQ_rep (K := X.K) s1.rel r1 g2
  obtain ⟨a, us, rfl, hsq, hr⟩ : ∃ a us, u = V.ref a ∧ (SqT X.K H1 a us ∨ SqL X.K H1 a us) ∧ RepL κ F1 ds us := by
    rcases seqD_of g3 with rfl | rfl
    · obtain ⟨a, us, e1, e2, e3⟩ := repQ_tup s1.rel.le z
      exact ⟨a, us, e1, .inl e2, e3⟩
    · obtain ⟨a, us, e1, e2, e3⟩ := repQ_lst z
      exact ⟨a, us, e1, .inr e2, e3⟩
  exact ⟨a, us, rfl, hsq, F1, ρ1, qs, _, s1.rel, g4, fun F2 H2 ws s2 r2 => k F2 H2 (us ++ ws) (s1.trans s2)
    ((repPs_vals (RepL.mono s2.ex _ _ hr)).append (r2.early fun a z => s1.none_back z))⟩
/-- one argument -/
theorem a_one {e : E} {x : Expr} (hx : notStar x = true) (hn : ∀ ρ, evEs Γ gl [e] ρ = bnd2 (evE Γ gl e ρ) fun p ρ1 => bnd2 (evEs Γ gl [] ρ1) fun ps ρ2 => some (p :: ps, ρ2)) (h1 : PE X x (TEv κ Γ gl X.K e)) : PA X [x] (tCons (TEv κ Γ gl X.K e) tNil) := pa_cons h1 pa_nil (star_no hx [] X.env)

/-! ### a slice's parts -/
theorem o_none : PO X none (TOv κ Γ gl X.K .nil) := PO.imp po_none fun σ H Q q => by
  obtain ⟨F, ρ, o, ρ', rel, e, k⟩ := q
  unfold evO at e
  cases e
  exact k F H (.refl rel)
theorem o_some {e : E} {x : Expr} (h : PE X x (TEv κ Γ gl X.K e)) : PO X (some x) (TOv κ Γ gl X.K (.seq e)) := PO.imp (po_some h) fun σ H Q q => by
  obtain ⟨F, ρ, o, ρ', rel, e, k⟩ := q
  unfold evO at e
  obtain ⟨p, ρ1, g1, e⟩ := bnd2_of e
  obtain ⟨d, g2, e⟩ := bnd1_of e
  obtain ⟨i, g3, e⟩ := bnd1_of e
  cases e
  refine one rel g1 fun F1 H1 u s1 r1 => ?_
  rw [intD_of g3] at g2
  exact ⟨i, repQ_int (getQ_rep (K := X.K) s1.rel r1 g2), k F1 H1 s1⟩

/-! ### f-strings -/
theorem fmt_ok {F2 H2 : Hp} {d : D} {v : V} {y : Str} {Q : VK} (h : RepQ κ X.K F2 H2 d v) (e : fmtD d = some y) (q : Q (.str y) H2) : (∃ z : Str, v = .str z ∧ z.length ≤ sizeLine ∧ Q (.str z) H2) ∨ ∃ i : Int, v = .int i ∧ i.natAbs.log2 < 1920 ∧ Q (.str (toString i)) H2 := by
  unfold fmtD at e
  split at e
  · split at e
    · cases e
      exact .inl ⟨_, repQ_str h, big_le (by assumption), q⟩
    · cases e
  · split at e
    · cases e
      exact .inr ⟨_, repQ_int h, small_log (by assumption), q⟩
    · cases e
  · cases e
def TFv (κ : Cs) (Γ : Nat → Option Fn) (gl : Str → Option D) (K : PySem.W.Frag) (es : List E) (acc : Str) (σ : L2.St) (H : Hp) (Q : Str → Hp → Prop) : Prop :=
  ∃ F ρ x ρ', Rel κ K F ρ σ H ∧ evFs Γ gl es ρ acc = some (x, ρ') ∧ ∀ F' H', Step κ K F ρ σ H F' ρ' σ H' → Q x H'
theorem s_fstr {t : Bool} {es : List E} {p q : Expr} {r : List Expr} {ts : List TE} {pos : Pos} (h : PJ X (p :: q :: r) ts) (hi : ∀ acc σ H Q, TFv κ Γ gl X.K es acc σ H Q → tJs ts acc σ H Q) : SndE κ Γ gl X t (.fstr es) (.JoinedStr (p :: q :: r) pos) := by
  refine snd_plain (PE.imp (pe_joined h) fun σ H Q q => ?_) rfl
  obtain ⟨F, ρ, p, ρ', rel, e, Y⟩ := q
  unfold evE at e
  obtain ⟨x, ρ1, g1, e⟩ := bnd2_of e
  cases e
  exact hi _ _ _ _ ⟨F, ρ, x, _, rel, g1, fun F1 H1 s1 => yld_val s1 Y (rep_str _)⟩
theorem f_fmt {e : E} {es : List E} {ts : List TE} (hi : ∀ acc σ H Q, TFv κ Γ gl X.K es acc σ H Q → tJs ts acc σ H Q) : ∀ acc σ H Q, TFv κ Γ gl X.K (e :: es) acc σ H Q → tJs (tFmt (TEv κ Γ gl X.K e) :: ts) acc σ H Q := by
  intro acc σ H Q q
  obtain ⟨F, ρ, x, ρ', rel, e, k⟩ := q
  unfold evFs at e
  obtain ⟨p, ρ1, g1, e⟩ := bnd2_of e
  obtain ⟨d, g2, e⟩ := bnd1_of e
  obtain ⟨y, g3, e⟩ := bnd1_of e
  obtain ⟨c, e⟩ := req_of e
  have hz : (acc ++ y).length ≤ sizeLine := by
    rw [PySem.Str.length_append]
    exact big_le (of_decide_eq_true c)
  refine one rel g1 fun F1 H1 u s1 r1 => ?_
  refine fmt_ok (Q := fun x H1 => ∃ y : Str, x = .str y ∧ (acc ++ y).length ≤ sizeLine ∧ tJs ts (acc ++ y) σ H1 Q) (getQ_rep (K := X.K) s1.rel r1 g2) g3 ?_
  exact ⟨y, rfl, hz, hi _ _ _ _ ⟨F1, ρ1, x, _, s1.rel, e, fun F2 H2 s2 => k F2 H2 (s1.trans s2)⟩⟩
theorem f_cst {y : Str} {es : List E} {ts : List TE} (hi : ∀ acc σ H Q, TFv κ Γ gl X.K es acc σ H Q → tJs ts acc σ H Q) : ∀ acc σ H Q, TFv κ Γ gl X.K (.cst (.str y) :: es) acc σ H Q → tJs (tC (.str y) :: ts) acc σ H Q := by
  intro acc σ H Q q
  obtain ⟨F, ρ, x, ρ', rel, e, k⟩ := q
  unfold evFs at e
  obtain ⟨p, ρ1, g1, e⟩ := bnd2_of e
  obtain ⟨d, g2, e⟩ := bnd1_of e
  obtain ⟨z, g3, e⟩ := bnd1_of e
  obtain ⟨c, e⟩ := req_of e
  unfold evE at g1
  cases g1
  cases g2
  have g3 : (if y.length ≤ big then some y else none) = some z := g3
  split at g3
  · cases g3
    have hz : (acc ++ y).length ≤ sizeLine := by
      rw [PySem.Str.length_append]
      exact big_le (of_decide_eq_true c)
    exact ⟨y, rfl, hz, hi _ _ _ _ ⟨F, _, x, _, rel, e, fun F2 H2 s2 => k F2 H2 s2⟩⟩
  · cases g3

/-! ### what is walked -/
theorem toVal_none {ρ1 : Ro} {σ : L2.St} {F1 H0 H1 : Hp} {p : Pl} {v : V} {d : D} (r : Rel κ X.K F1 ρ1 σ H1) (h : RepP κ F1 ρ1 σ H0 H1 p v) (e1 : toVal ρ1 p = none) (e2 : getQ ρ1 p = some d) : ∃ i ds, p = .slot i ∧ ρ1[i]? = some (some (.bor ds)) ∧ d = .lst ds := by
  cases p with
  | slot i =>
    unfold getQ at e2
    have e2 : ((ρ1[i]?).join).map contQ = some d := e2
    have e1 : (match (ρ1[i]?).join with
      | some (.val d) => some (d, ρ1)
      | some (.own ds) => some (D.lst ds, ρ1.set i (some (W.val (.lst ds))))
      | _ => none) = none := e1
    cases q : (ρ1[i]?).join with
    | none => rw [q] at e2; cases e2
    | some w =>
      rw [q] at e1 e2
      cases w with
      | val _ => cases e1
      | own _ => cases e1
      | bor ds => cases e2; exact ⟨i, ds, rfl, slot_get q, rfl⟩
  | tmp w =>
    cases w with
    | val _ => cases e1
    | own _ => cases e1
    | bor _ => exact False.elim h
theorem i_seq {tg x : Expr} {e : E} (h : PE X x (TEv κ Γ gl X.K e)) : PI X tg x (TIv κ Γ gl X.K (.seq e)) := PI.imp (PI.or (pi_list h) (pi_tup h)) fun σ H R q => by
  obtain ⟨F, ρ, ds, ρ', rel, e, k⟩ := q
  unfold evI at e
  obtain ⟨p, ρ1, g1, e⟩ := bnd2_of e
  unfold walkP at e
  cases q : toVal ρ1 p with
  | some r =>
    obtain ⟨d, ρ2⟩ := r
    rw [q] at e
    obtain ⟨es, g2, e⟩ := bnd1_of e
    cases e
    rcases seqD_of g2 with rfl | rfl
    · refine .inr (one rel g1 fun F1 H1 u s1 r1 => ?_)
      obtain ⟨F2, s2, hv, _⟩ := toVal_step s1 r1.weak q
      obtain ⟨a, o, vs, rfl, _, hF, hr⟩ := hv.tupE
      exact ⟨a, rfl, ⟨vs, sqT_f (s2.rel.le a _ hF)⟩, k F2 H1 _ s2 (walk_tupF s2.rel hF hr)⟩
    · refine .inl (one rel g1 fun F1 H1 u s1 r1 => ?_)
      obtain ⟨F2, s2, hv, _⟩ := toVal_step s1 r1.weak q
      unfold Rep at hv
      obtain ⟨a, vs, rfl, hF, hr⟩ := hv
      exact ⟨a, rfl, ⟨vs, SqL.of (s2.rel.le a _ hF)⟩, k F2 H1 _ s2 (walk_seqF s2.rel hF hr)⟩
  | none =>
    rw [q] at e
    obtain ⟨d, g2, e⟩ := bnd1_of e
    obtain ⟨es, g3, e⟩ := bnd1_of e
    cases e
    refine .inl (one rel g1 fun F1 H1 u s1 r1 => ?_)
    obtain ⟨i, l, rfl, hb, rfl⟩ := toVal_none s1.rel r1 q g2
    cases g3
    obtain ⟨v, h1, h2⟩ := s1.rel.slot i _ hb
    have h1' : σ[i]? = some (some u) := r1
    rw [h1] at h1'
    cases h1'
    obtain ⟨a, vs, rfl, hs, hr⟩ := h2
    exact ⟨a, rfl, ⟨vs, hs⟩, k F1 H1 _ s1 (walk_bor s1.rel (s1.rel.apart i _ a hb h1) ⟨i, hb, h1⟩ hs hr)⟩
theorem sm_62 {n : Int} (h : isSm n = true) : -(2 ^ 62) ≤ n ∧ n < 2 ^ 62 := by
  unfold isSm at h
  simp only [Bool.and_eq_true, decide_eq_true_eq] at h
  omega
theorem i_rng1 (G : Good κ Γ nm gl L N X sc fp) {tg x : Expr} {a : E} {p pos : Pos} (hg : Gl X "range") (hx : notStar x = true) (h : PE X x (TEv κ Γ gl X.K a)) : PI X tg (.Call (.Name "range" p) [x] [] pos) (TIv κ Γ gl X.K (.rng1 a)) :=
  PI.imp (pi_range1 hg (G.blt (by decide)) (pa_cons h pa_nil (star_no hx [] X.env)) (star_no hx [] X.env)) fun σ H R q => by
  obtain ⟨F, ρ, ds, ρ', rel, e, k⟩ := q
  unfold evI at e
  obtain ⟨p1, ρ1, g1, e⟩ := bnd2_of e
  obtain ⟨d, g2, e⟩ := bnd1_of e
  obtain ⟨n, g3, e⟩ := bnd1_of e
  obtain ⟨c, e⟩ := req_of e
  cases e
  rw [intD_of g3] at g2
  refine one rel g1 fun F1 H1 u s1 r1 => ?_
  have w := walk_rng s1.rel 0 n
  rw [Int.sub_zero] at w
  exact ⟨n, by rw [repQ_int (getQ_rep (K := X.K) s1.rel r1 g2)], (sm_62 c).1, (sm_62 c).2, k F1 H1 _ s1 w⟩
theorem i_rng2 (G : Good κ Γ nm gl L N X sc fp) {tg x y : Expr} {a b : E} {p pos : Pos} (hg : Gl X "range") (hx : notStar x = true) (hy : notStar y = true) (h : PE X x (TEv κ Γ gl X.K a)) (h' : PE X y (TEv κ Γ gl X.K b)) : PI X tg (.Call (.Name "range" p) [x, y] [] pos) (TIv κ Γ gl X.K (.rng2 a b)) :=
  PI.imp (pi_range2 hg (G.blt (by decide)) (pa_cons h (pa_cons h' pa_nil (star_no hy [] X.env)) (star_no hx [y] X.env)) (by rw [star_no hx, star_no hy]; rfl) (star_no hy [] X.env)) fun σ H R q => by
  obtain ⟨F, ρ, ds, ρ', rel, e, k⟩ := q
  unfold evI at e
  obtain ⟨p1, ρ1, g1, e⟩ := bnd2_of e
  obtain ⟨p2, ρ2, g2, e⟩ := bnd2_of e
  obtain ⟨d1, g3, e⟩ := bnd1_of e
  obtain ⟨m, g4, e⟩ := bnd1_of e
  obtain ⟨d2, g5, e⟩ := bnd1_of e
  obtain ⟨n, g6, e⟩ := bnd1_of e
  obtain ⟨c, e⟩ := req_of e
  cases e
  rw [intD_of g4] at g3
  rw [intD_of g6] at g5
  rw [Bool.and_eq_true] at c
  refine two (R := fun u v H2 => ∃ i j : Int, [u, v] = [.int i, .int j] ∧ (-(2 ^ 62) ≤ i ∧ i < 2 ^ 62 ∧ -(2 ^ 62) ≤ j ∧ j < 2 ^ 62) ∧ R (Itr i (j - i).toNat) H2) rel g1 g2 fun F2 H2 u v s2 r1 r2 => ?_
  exact ⟨m, n, by rw [repQ_int (getQ_rep (K := X.K) s2.rel r1 g3), repQ_int (getQ_rep (K := X.K) s2.rel r2 g5)], ⟨(sm_62 c.1).1, (sm_62 c.1).2, (sm_62 c.2).1, (sm_62 c.2).2⟩, k F2 H2 _ s2 (walk_rng s2.rel m n)⟩
theorem i_zip (G : Good κ Γ nm gl L N X sc fp) {x y : Expr} {elts : List Expr} {kk : Nat} {tpos : Pos} {a b : E} {p pos : Pos} (hg : Gl X "zip") (hx : notStar x = true) (hy : notStar y = true) (h : PE X x (TEv κ Γ gl X.K a)) (h' : PE X y (TEv κ Γ gl X.K b)) :
    PI X (.Tuple elts kk tpos) (.Call (.Name "zip" p) [x, y] [] pos) (TIv κ Γ gl X.K (.zip a b)) :=
  PI.imp (pi_zipF hg (G.blt (by decide)) (pa_cons h (pa_cons h' pa_nil (star_no hy [] X.env)) (star_no hx [y] X.env)) (star_no hx [y] X.env) (by rw [star_no hy]; rfl)) fun σ H R q => by
  obtain ⟨F, ρ, ds, ρ', rel, e, k⟩ := q
  unfold evI at e
  obtain ⟨p1, ρ1, g1, e⟩ := bnd2_of e
  obtain ⟨p2, ρ2, g2, e⟩ := bnd2_of e
  obtain ⟨d1, ρ3, g3, e⟩ := bnd2_of e
  obtain ⟨d2, ρ4, g4, e⟩ := bnd2_of e
  obtain ⟨l, g5, e⟩ := bnd1_of e
  cases e
  refine two (R := fun u v H2 => ∃ a b xs ys, [u, v] = [V.ref a, V.ref b] ∧ ((SqL X.K H2 a xs ∧ SqL X.K H2 b ys ∧ R (ItzL X.K a b) H2) ∨ (SqT X.K H2 a xs ∧ SqT X.K H2 b ys ∧ R (ItzU X.K a b) H2))) rel g1 g2 fun F2 H2 u v s2 r1 r2 => ?_
  obtain ⟨F3, s3, hv3, k3⟩ := toVal_step s2 r1.weak g3
  obtain ⟨F4, s4, hv4, k4⟩ := toVal_step s3 (k3 _ _ r2.weak) g4
  have hv3' : Rep κ F4 d1 u := k4 (.tmp (.val d1)) u hv3
  unfold zip2 at g5
  split at g5
  · cases g5
    obtain ⟨a, o1, vs, rfl, _, hF, hr⟩ := hv3'.tupE
    obtain ⟨b, o2, us, rfl, _, hF2, hr2⟩ := hv4.tupE
    exact ⟨a, b, vs, us, rfl, .inr ⟨sqT_f (s4.rel.le a _ hF), sqT_f (s4.rel.le b _ hF2), k F4 H2 _ s4 (walk_zipTF s4.rel hF hF2 hr hr2)⟩⟩
  · cases g5
    unfold Rep at hv3' hv4
    obtain ⟨a, vs, rfl, hF, hr⟩ := hv3'
    obtain ⟨b, us, rfl, hF2, hr2⟩ := hv4
    exact ⟨a, b, vs, us, rfl, .inl ⟨SqL.of (s4.rel.le a _ hF), SqL.of (s4.rel.le b _ hF2), k F4 H2 _ s4 (walk_zipF s4.rel hF hF2 hr hr2)⟩⟩
  · cases g5
theorem i_enum (G : Good κ Γ nm gl L N X sc fp) {x : Expr} {elts : List Expr} {kk : Nat} {tpos : Pos} {a : E} {p pos : Pos} (hg : Gl X "enumerate") (hx : notStar x = true) (h : PE X x (TEv κ Γ gl X.K a)) :
    PI X (.Tuple elts kk tpos) (.Call (.Name "enumerate" p) [x] [] pos) (TIv κ Γ gl X.K (.enum a)) :=
  PI.imp (pi_enumF hg (G.blt (by decide)) (pa_cons h pa_nil (star_no hx [] X.env)) (star_no hx [] X.env)) fun σ H R q => by
  obtain ⟨F, ρ, ds, ρ', rel, e, k⟩ := q
  unfold evI at e
  obtain ⟨p1, ρ1, g1, e⟩ := bnd2_of e
  obtain ⟨d1, ρ3, g3, e⟩ := bnd2_of e
  obtain ⟨l, g5, e⟩ := bnd1_of e
  cases e
  refine one (R := fun u H2 => ∃ a xs, [u] = [V.ref a] ∧ ((SqL X.K H2 a xs ∧ R (IteL X.K a) H2) ∨ (SqT X.K H2 a xs ∧ R (IteT X.K a) H2))) rel g1 fun F2 H2 u s2 r1 => ?_
  obtain ⟨F3, s3, hv3, k3⟩ := toVal_step s2 r1.weak g3
  rcases seqD_of g5 with rfl | rfl
  · obtain ⟨a, o1, vs, rfl, _, hF, hr⟩ := hv3.tupE
    exact ⟨a, vs, rfl, .inr ⟨sqT_f (s3.rel.le a _ hF), k F3 H2 _ s3 (walk_enumTF s3.rel hF hr)⟩⟩
  · unfold Rep at hv3
    obtain ⟨a, vs, rfl, hF, hr⟩ := hv3
    exact ⟨a, vs, rfl, .inl ⟨SqL.of (s3.rel.le a _ hF), k F3 H2 _ s3 (walk_enumF s3.rel hF hr)⟩⟩

/-! ### calls -/
theorem s_rev {t : Bool} {a : E} {x : Expr} {k : Nat} {p1 p2 p3 pos : Pos} (ha : PE X x (TEv κ Γ gl X.K a)) : SndE κ Γ gl X t (.rev a) (.Subscript x (.Slice none none (some (.UnaryOp .USub (.Constant (.int 1) k p1) p2)) p3) pos) := by
  refine snd_plain (PE.imp (pe_revF ha) fun σ H Q q => ?_) rfl
  obtain ⟨F, ρ, p, ρ', rel, e, Y⟩ := q
  unfold evE at e
  obtain ⟨p1, ρ1, h1, e⟩ := bnd2_of e
  obtain ⟨d, g1, e⟩ := bnd1_of e
  obtain ⟨w, g2, e⟩ := bnd1_of e
  cases e
  refine one rel h1 fun F1 H1 u s1 r1 => ?_
  have z := getQ_rep (K := X.K) s1.rel r1 g1
  unfold revW at g2
  split at g2
  · cases g2
    obtain ⟨a, us, e1, e2, e3⟩ := repQ_tup s1.rel.le z
    exact ⟨a, us, e1, .inr ⟨e2, yld_tup s1 Y e3.reverse⟩⟩
  · cases g2
    obtain ⟨a, us, e1, e2, e3⟩ := repQ_lst z
    exact ⟨a, us, e1, .inl ⟨e2, yld_own s1 Y e3.reverse⟩⟩
  · cases g2
theorem s_call (G : Good κ Γ nm gl L N X sc fp) {t : Bool} {f : Nat} {es : List E} {y : Expr} {ys : List Expr} {p pos : Pos} {n : Str} (hn : nm.kd f = .def_ n) (hg : isGl sc n = true) (ho : okName n = true) (ha : PA X (y :: ys) (TAv κ Γ gl X.K es)) (hs : (y :: ys).all notStar = true) :
    SndE κ Γ gl X t (.call f es) (.Call (.Name n p) (y :: ys) [] pos) := by
  rw [List.all_cons, Bool.and_eq_true] at hs
  cases hf : Γ f with
  | none =>
    refine snd_plain ⟨fun pins s σ H Q I q => ?_⟩ rfl
    obtain ⟨F, ρ, p, ρ', rel, e, Y⟩ := q
    unfold evE at e
    obtain ⟨ps, ρ1, h1, e⟩ := bnd2_of e
    obtain ⟨fn, g1, e⟩ := bnd1_of e
    rw [hf] at g1
    cases g1
  | some fn =>
    have hk := G.tab.fns f fn hf
    rw [hn] at hk
    obtain ⟨a, m1, m2, m3⟩ := hk
    refine snd_plain (PE.imp (pe_callF m3 (G.room.mono (Nat.le_succ L)) G.gd m2 (G.gl' hg) m1 ha (okName_1 ho) (star_no hs.1 ys X.env) (star_all hs.2 X.env pos)) fun σ H Q q => ?_) rfl
    obtain ⟨F, ρ, p, ρ', rel, e, Y⟩ := q
    unfold evE at e
    obtain ⟨ps, ρ1, h1, e⟩ := bnd2_of e
    obtain ⟨fn', g1, e⟩ := bnd1_of e
    rw [hf] at g1
    cases g1
    obtain ⟨vals, ρ2, g2, e⟩ := bnd2_of e
    obtain ⟨ds, g3, e⟩ := bnd1_of e
    obtain ⟨c, e⟩ := req_of e
    obtain ⟨w, outs, g4, e⟩ := bnd2_of e
    cases e
    exact ⟨F, ρ, ps, ρ1, rel, h1, fun F1 H1 vs s1 r1 => call_ok s1 r1 g2 g3 c g4 Y⟩
/-- a built-in's reading -/
theorem bi_run {b : Bi} {es : List E} {r : List V → Hp → VK → Prop} {σ : L2.St} {H : Hp} {Q : VK}
    (hr : ∀ F ρ F2 ρ2 H2 ds vs w, Step κ X.K F ρ σ H F2 ρ2 σ H2 → biRun b ds = some w → RepQL κ X.K F2 H2 ds vs → Yld κ X.K F ρ σ H ρ2 (.tmp w) Q → r vs H2 Q) (q : TEv κ Γ gl X.K (.bi b es) σ H Q) : tCB r (TAv κ Γ gl X.K es) σ H Q := by
  obtain ⟨F, ρ, p, ρ', rel, e, Y⟩ := q
  unfold evE at e
  obtain ⟨ps, ρ1, h1, e⟩ := bnd2_of e
  obtain ⟨ds, g1, e⟩ := bnd1_of e
  obtain ⟨w, g2, e⟩ := bnd1_of e
  cases e
  exact ⟨F, ρ, ps, _, rel, h1, fun F1 H1 vs s1 r1 => hr F ρ F1 _ H1 ds vs w s1 g2 (getQs_rep s1.rel r1 g1) Y⟩
/-- a method's reading -/
theorem bm_run {m : Bm} {o : E} {e1 : E} (hn : ∀ ρ, evEs Γ gl [e1] ρ = bnd2 (evE Γ gl e1 ρ) fun p ρ1 => bnd2 (evEs Γ gl [] ρ1) fun ps ρ2 => some (p :: ps, ρ2)) {r : V → List V → Hp → VK → Prop} {σ : L2.St} {H : Hp} {Q : VK} (hstr : ∀ d ds w, bmRun m d ds = some w → ∃ x, d = .str x)
    (hr : ∀ F ρ F1 H1 F2 ρ2 H2 d ds v vs w, Step κ X.K F ρ σ H F2 ρ2 σ H2 → bmRun m d ds = some w → RepQ κ X.K F1 H1 d v → RepQL κ X.K F2 H2 ds vs → Yld κ X.K F ρ σ H ρ2 (.tmp w) Q → r v vs H2 Q) (q : TEv κ Γ gl X.K (.bm m o [e1]) σ H Q) : tM1 r (TEv κ Γ gl X.K o) (TEv κ Γ gl X.K e1) σ H Q := by
  obtain ⟨F, ρ, p, ρ', rel, e, Y⟩ := q
  unfold evE at e
  obtain ⟨p1, ρ1, h1, e⟩ := bnd2_of e
  obtain ⟨d, g1, e⟩ := bnd1_of e
  obtain ⟨ps, ρ2, h2, e⟩ := bnd2_of e
  obtain ⟨ds, g2, e⟩ := bnd1_of e
  obtain ⟨w, g3, e⟩ := bnd1_of e
  cases e
  rw [hn] at h2
  obtain ⟨p2, ρ3, h2, h3⟩ := bnd2_of h2
  unfold evEs at h3
  cases h3
  refine one rel h1 fun F1 H1 u s1 r1 => ?_
  have z := getQ_rep (K := X.K) s1.rel r1 g1
  obtain ⟨x, ex⟩ := hstr _ _ _ g3
  subst ex
  refine ⟨⟨x, repQ_str z⟩, F1, ρ1, p2, _, s1.rel, h2, fun F2 H2 v s2 r2 => ?_⟩
  exact hr F ρ F1 H1 F2 _ H2 _ ds u [v] w (s1.trans s2) g3 z (getQs_rep s2.rel (.cons r2.weak .nil) g2) Y
end
end DT

end
section
/-! a, *b = a list. -/
namespace DT
open PySem PySem.Spec PyProof.Rows L2
section
variable {prog : Program} {w : World} {A : Around} {E : Value → Shared → Prop} {s : Shared}
theorem star_unpack {l : Addr} {items : Array Value} {x : Value} {r : List Value} {Q : List Value → Shared → Prop} (hl : s.heap.IsList l items) (hh : A.handled = none) (hz : items.size ≤ 16384) (hx : items.toList = x :: r)
    (h : ∀ (h' : Heap) (tk : Nat), (∀ b o, s.heap.get? b = some o → h'.get? b = some o) → Q [x, .ref h'.objs.size] { s with heap := h'.push { cls := .type "list", data := .seq r.toArray }, toks := tk }) : wpAny (model prog w) A (unpackItems (.ref l) 2 (some 1)) Q E s := by
  have hn : 1 ≤ items.size := by rw [← Array.length_toList, hx]; simp
  have hlt : l ≠ s.heap.objs.size := by obtain ⟨o, ho, _⟩ := hl; exact Nat.ne_of_lt (Heap.lt_size ho)
  unfold unpackItems
  refine wpAny_bind ?_
  unfold notIterableAtAll
  refine wpAny_bind (wpAny_specialOf hl.typeIs PySem.slot_list_iter.lookup ?_)
  refine wpAny_pure ?_
  simp only [Bool.false_eq_true, if_false]
  refine wpAny_bind (wpAny_holding (wpAny_pyIter_list hl ?_))
  refine wpAny_bind (wpAny_holding (PySem.W.kun_draw hlt 1 0 _ _ ⟨_, Heap.get?_push_size _ rfl, rfl, rfl⟩ (hl.push _) (by omega) fun h₁ hit₁ hs₁ => ?_))
  have hl₁ : h₁.IsList l items := (hl.push _).extBut hs₁.extBut hlt
  rw [Nat.zero_add] at hit₁
  have hit₁' := hit₁
  obtain ⟨oi, hoi, _⟩ := hit₁'
  have hl₁' := hl₁
  obtain ⟨ol, hol, _⟩ := hl₁'
  rw [List.drop_zero, hx]
  show wpAny _ _ (if ([x] : List Value).length < 1 then _ else _) _ _ _
  rw [if_neg (by simp)]
  refine wpAny_bind (wpAny_holding (PySem.W.kun_collect (s := { s with heap := h₁ }) (T := "list_iterator") (.inr (.inr (.inl rfl))) (Walks.list (A := A.in1) hh s.heap.objs.size l hlt items) (fun j u st => st.1.typeIs) (k := 1) (by omega) ⟨hit₁, hl₁⟩ (Heap.lt_size hoi) (Heap.lt_size hol) (fun h₂ tk hk => ?_) (by rw [sizeLine_eq]; omega)))
  have hr : items.toList.drop 1 = r := by rw [hx]; rfl
  rw [hr]
  show wpAny _ _ (if r.length < 2 - 1 - 1 then _ else _) _ _ _
  rw [if_neg (by omega)]
  show wpAny _ _ (newList (r.take (r.length - (2 - 1 - 1))) >>= fun d => pure ([x] ++ [d] ++ r.drop (r.length - (2 - 1 - 1)))) _ _ _
  have e0 : r.length - (2 - 1 - 1) = r.length := by omega
  rw [e0, List.take_length, List.drop_length]
  have he : ∀ b o, s.heap.get? b = some o → h₂.get? b = some o := fun b o e => hk b o (Nat.ne_of_lt (Heap.lt_size e)) (hs₁.extBut b o (Nat.ne_of_lt (Heap.lt_size e)) (Heap.get?_push_of_some _ e))
  have hrl : r.length ≤ items.size := by rw [← Array.length_toList, hx]; simp
  refine wpAny_bind ?_
  unfold newList
  refine wpAny_newObj_type ?_ (by show r.toArray.size ≤ sizeLine; rw [List.size_toArray, sizeLine_eq]; omega)
  exact wpAny_pure (h h₂ tk he)
end
section
variable {X : Cx}
/-- name, *name = a list -/
def gStarL (K : PySem.W.Frag) (i j : Nat) : TG := fun v σ H Q => ∃ a x r, v = .ref a ∧ SqL K H a (x :: r) ∧ r.length ≤ 10000 ∧ ∀ p, H p = none → Q ((σ.set i (some x)).set j (some (.ref p))) (upd H p (.lst r))
theorem pg_starL {i j : Nat} {n m : Str} {pn pm ps pos : Pos} {kk : Nat} (hc : X.calm = true) (hN : X.N.Nodup) (hi : X.N[i]? = some n) (hj : X.N[j]? = some m) (l1 : Loc X.env.scope n) (l2 : Loc X.env.scope m)
    (f1 : X.fn n = true ∨ X.env.scope.names.lookup n = some .local) (f2 : X.fn m = true ∨ X.env.scope.names.lookup m = some .local) : PG X (.Tuple [.Name n pn, .Starred (.Name m pm) ps] kk pos) (gStarL X.K i j) := by
  refine ⟨fun pins s σ H v u Q I r h => ?_⟩
  obtain ⟨a, x, rs, rfl, hq, hz, q⟩ := h
  obtain rfl : u = Value.ref a := r
  obtain ⟨its, rv, pl, _⟩ := I.list hq
  cases rv with
  | @cons _ ux _ us rx rus =>
    rw [assign_Tuple]
    refine wpAny_bind (wpAny_standAt ?_)
    unfold unpack
    show wpAny _ _ (holding _ (unpackItems (.ref a) 2 (some 1)) >>= _) _ _ _
    have hul := rus.length
    refine wpAny_bind (wpAny_holding (star_unpack (x := ux) (r := us) pl.isList (I.ok.hd hc) (by simp; omega) (by simp) fun h' tk hk => ?_))
    have I1 : Inv X pins σ H { s with heap := h', toks := tk } := I.kept hk
    have hf : H h'.objs.size = none := I1.hok.fresh (Nat.le_refl _)
    have I2 : Inv X pins σ (upd H h'.objs.size (.lst rs)) { s with heap := h'.push { cls := .type "list", data := .seq us.toArray }, toks := tk } :=
      I1.laid (t' := tk) (fun b o e => Heap.get?_push_of_some _ e) (Nat.le_refl _) ⟨by rw [sizeLine_eq]; omega, us, 0, rus, Heap.get?_push_size _ rfl⟩
    refine assignInOrder_cons (wpAny_assign_Name (store_ok I2 hN hi l1 rx (fun s2 I3 => ?_) f1))
    refine assignInOrder_cons (wpAny_assign_Name (store_ok (v := V.ref h'.objs.size) I3 hN hj l2 rfl (fun s3 I4 => ?_) f2))
    exact assignInOrder_nil ⟨_, _, I4, q _ hf⟩
end
end DT

end
section
/-! DT: fields, calls with a receiver, classes called. -/
namespace DT
open PySem PySem.Spec PyProof.Rows L2

section
variable {X : Cx} {pins : List (Addr × Obj)} {σ : L2.St} {H : Hp} {s : Shared} {κ : Cs} {gb : Bool} {k : Nat} {f : Addr} {fn : Fn}
theorem run_fnG1 {Q : VK} {us : List Value} {vs : List V} (F : FnG X.prog X.w X.K X.mg X.base κ gb k f fn) (hr : Room (k + 1) X.A) (hgd : gb = true → X.A.guards = some []) (I : Inv X pins σ H s) (r : Vals vs us) (h : SpF κ X.K fn vs H Q) :
    codeAny (model X.prog X.w) X.A.in1 (.call (.ref f) ⟨us, []⟩) (fun r s' => match r with | .ok (.ret v) => EP X pins σ Q v s' | .ok _ => False | .error e => X.xe e s') s := by
  refine codeAny_mono (F X.A.in1 X.stack s H us vs Q hr.in1 hgd I.env0.in1 r h) fun r s' hq => ?_
  cases r with
  | error e => exact False.elim hq
  | ok fl =>
    cases fl with
    | ret u => exact I.after hq
    | next => exact False.elim hq
    | brk => exact False.elim hq
    | cont => exact False.elim hq
end

section
variable {κ : Cs} {F F' H H' : Hp}
theorem Rep.insE {c : Str} {ds : List D} {v : V} (h : Rep κ F (.ins c ds) v) : ∃ a C dx vs, v = .ref a ∧ κ.ad c = some C ∧ F a = some (.ins C dx ((κ.fl c).zip vs)) ∧ RepL κ F ds vs := by unfold Rep at h; exact h
theorem Rep.clsE {c : Str} {v : V} (h : Rep κ F (.cls c) v) : ∃ C, v = .ref C ∧ κ.ad c = some C := by unfold Rep at h; exact h
theorem Rep.dicE {ks : List Int} {ds : List D} {v : V} (h : Rep κ F (.dic ks ds) v) : ∃ a kvs, v = .ref a ∧ F a = some (.dK kvs) ∧ kvs.map (·.1) = ks.map Sum.inl ∧ RepL κ F ds (kvs.map (·.2)) := by unfold Rep at h; exact h
theorem lookup_zip {α β : Type} [BEq α] [LawfulBEq α] : ∀ {l : List α} {vs : List β} {i : Nat} {n : α} {v : β}, l.Nodup → l[i]? = some n → vs[i]? = some v → (l.zip vs).lookup n = some v
  | [], _, i, n, v, _, h, _ => by simp at h
  | _ :: _, [], i, n, v, _, _, h => by simp at h
  | a :: l, b :: vs, 0, n, v, nd, h1, h2 => by
    simp at h1 h2
    subst h1 h2
    simp [List.lookup]
  | a :: l, b :: vs, i + 1, n, v, nd, h1, h2 => by
    have h1 : l[i]? = some n := by simpa using h1
    have h2 : vs[i]? = some v := by simpa using h2
    obtain ⟨n1, n2⟩ := List.nodup_cons.mp nd
    have hne : (n == a) = false := by
      rw [beq_eq_false_iff_ne]
      rintro rfl
      exact n1 (List.mem_of_getElem? h1)
    rw [List.zip_cons_cons, List.lookup_cons, hne]
    exact lookup_zip n2 h1 h2
theorem lookup_none {β : Type} {l : List Str} {n : Str} (h : n ∉ l) : ∀ (vs : List β), (l.zip vs).lookup n = none := by
  induction l with
  | nil => intro vs; rfl
  | cons a l ih =>
    intro vs
    cases vs with
    | nil => rfl
    | cons b vs =>
      have hne : (n == a) = false := by
        rw [beq_eq_false_iff_ne]
        rintro rfl
        exact h List.mem_cons_self
      rw [List.zip_cons_cons, List.lookup_cons, hne]
      exact ih (fun z => h (List.mem_cons_of_mem _ z)) vs
end

section
variable {κ : Cs} {Γ : Nat → Option Fn} {nm : Nm} {gl : Str → Option D} {L : Nat} {N : List Str} {X : Cx} {sc : Scope} {fp : Str → Bool}
theorem s_fld (G : Good κ Γ nm gl L N X sc fp) {t : Bool} {c : Str} {f : Nat} {a : E} {x : Expr} {n : Str} {pos : Pos} (hf : (nm.fl c)[f]? = some n) (ha : PE X x (TEv κ Γ gl X.K a)) (hx : notCall x = true) : SndE κ Γ gl X t (.fld c f a) (.Attribute x n pos) := by
  obtain ⟨efl, nd, C0, hC0, cl, na⟩ := G.tab.fls c fun z => by rw [z] at hf; simp at hf
  refine snd_plain (PE.imp (pe_fld ha (base_no hx n X.env _)) fun σ H Q q => ?_) rfl
  obtain ⟨F, ρ, p, ρ', rel, e, Y⟩ := q
  unfold evE at e
  obtain ⟨p1, ρ1, h1, e⟩ := bnd2_of e
  obtain ⟨d, g1, e⟩ := bnd1_of e
  obtain ⟨d', g2, e⟩ := bnd1_of e
  cases e
  refine one rel h1 fun F1 H1 u s1 r1 => ?_
  have z := getQ_rep (K := X.K) s1.rel r1 g1
  cases d with
  | ins c' ds =>
    have g3 : (if c' = c then ds[f]? else none) = some d' := g2
    split at g3
    · rename_i ec
      subst ec
      have z : Rep κ F1 (.ins c' ds) u := z
      obtain ⟨a, C, dx, vs, rfl, hC, hF, hr⟩ := z.insE
      rw [hC0] at hC
      cases hC
      obtain ⟨v, hv, rv⟩ := hr.get g3
      refine ⟨a, C0, dx, _, v, rfl, s1.rel.le a _ hF, cl, na n (List.mem_of_getElem? hf), ?_, yld_val s1 Y rv⟩
      rw [← efl]
      exact lookup_zip nd hf hv
    · cases g3
  | _ => cases g2

/-! ### calls with a receiver -/
theorem callm_run {f : Nat} {fn : Fn} {e : E} {es : List E} {σ : L2.St} {H : Hp} {Q : VK} {R : V → Hp → Prop} (hf : Γ f = some fn) (hv : ∀ m ∈ fn.modes, m = .val) (hl : ∀ ds r, fn.run ds = some r → ds.length = fn.modes.length) (q : TEv κ Γ gl X.K (.callm f e es) σ H Q)
    (k : ∀ F1 H1 x d, (∀ a o, F1 a = some o → H1 a = some o) → RepQ κ X.K F1 H1 d x → (∃ ds r, fn.run (d :: ds) = some r) →
      (Rep κ F1 d x → TAv κ Γ gl X.K es σ H1 fun vs H2 => SpF κ X.K fn (x :: vs) H2 Q ∧ (∀ a o, F1 a = some o → H2 a = some o) ∧ ∃ ds w, fn.run (d :: ds) = some (w, [])) → R x H1) : TEv κ Γ gl X.K e σ H R := by
  obtain ⟨F, ρ, p, ρ', rel, e, Y⟩ := q
  unfold evE at e
  obtain ⟨p1, ρ1, h1, e⟩ := bnd2_of e
  obtain ⟨d, g1, e⟩ := bnd1_of e
  obtain ⟨fn', g0, e⟩ := bnd1_of e
  rw [hf] at g0
  cases g0
  obtain ⟨ps, ρ2, h2, e⟩ := bnd2_of e
  obtain ⟨ds, ρ3, h3, e⟩ := bnd2_of e
  obtain ⟨w, outs, h4, e⟩ := bnd2_of e
  obtain ⟨c, e⟩ := req_of e
  cases e
  have eo : outs = [] := by cases outs with
    | nil => rfl
    | cons _ _ => cases c
  subst eo
  refine one rel h1 fun F1 H1 u s1 r1 => k F1 H1 u d s1.rel.le (getQ_rep (K := X.K) s1.rel r1 g1) ⟨ds, _, h4⟩ fun rd => ?_
  refine ⟨F1, ρ1, ps, ρ2, s1.rel, h2, fun F2 H2 vs s2 r2 => ⟨?_, fun a o z => s2.rel.le a o (s2.ex a o z), ds, w, h4⟩⟩
  have hlen := hl _ _ h4
  have hlen2 := toVals_len h3
  exact callm_ok (s1.trans s2) (Rep.mono s2.ex _ _ rd) (r2.early fun a z => s1.none_back z) h3 hv (by rw [← hlen, hlen2]; rfl) h4 Y
theorem callm_none {t : Bool} {f : Nat} {e : E} {es : List E} {x : Expr} (hf : Γ f = none) (hp : plainTest x = true) : SndE κ Γ gl X t (.callm f e es) x := by
  refine snd_plain ⟨fun pins s σ H Q I q => ?_⟩ hp
  obtain ⟨F, ρ, p, ρ', rel, e, Y⟩ := q
  unfold evE at e
  obtain ⟨p1, ρ1, h1, e⟩ := bnd2_of e
  obtain ⟨d, g1, e⟩ := bnd1_of e
  obtain ⟨fn, g2, e⟩ := bnd1_of e
  rw [hf] at g2
  cases g2
/-- no arguments -/
theorem tav_nil {σ : L2.St} {H : Hp} {Q : List V → Hp → Prop} (q : TAv κ Γ gl X.K [] σ H Q) : Q [] H := by
  obtain ⟨F, ρ, ps, ρ', rel, e, k⟩ := q
  unfold evEs at e
  cases e
  exact k F H [] (.refl rel) .nil
theorem tav_one {e1 : E} (h1 : ∀ ρ, evEs Γ gl [e1] ρ = bnd2 (evE Γ gl e1 ρ) fun p ρ1 => bnd2 (evEs Γ gl [] ρ1) fun ps ρ2 => some (p :: ps, ρ2)) {σ : L2.St} {H : Hp} {Q : List V → Hp → Prop} (q : TAv κ Γ gl X.K [e1] σ H Q) : TEv κ Γ gl X.K e1 σ H fun y H1 => Q [y] H1 := by
  obtain ⟨F, ρ, ps, ρ', rel, e, k⟩ := q
  rw [h1] at e
  obtain ⟨p, ρ1, g1, e⟩ := bnd2_of e
  obtain ⟨ps', ρ2, g2, e⟩ := bnd2_of e
  unfold evEs at g2
  cases g2
  cases e
  exact one rel g1 fun F1 H1 u s1 r1 => k F1 H1 [u] s1 (.cons r1.weak .nil)

/-! ### the rules -/
section
variable {gb : Bool} {k : Nat} {g C p : Addr} {fn : Fn} {o e : Expr} {es : List Expr} {n m : Str} {ta te : TE} {t : TA} {pos apos : Pos} {mc : Value}
theorem pe_propG (he : PE X o ta) (c : Cls X.K C) (hp : PropOf X.K C n p g) (F : FnG X.prog X.w X.K X.mg X.base κ gb k g fn) (hr : Room (k + 1) X.A) (hgd : gb = true → X.A.guards = some []) (hxe : X.xe = fun _ _ => False) (hab : attributeBase o n X.env (eval o X.env) = eval o X.env) :
    PE X (.Attribute o n pos) (fun σ H Q => ta σ H fun x H1 => ∃ a dx fs, x = .ref a ∧ H1 a = some (.ins C dx fs) ∧ SpF κ X.K fn [x] H1 Q) := by
  refine ⟨fun pins s σ H Q I h => ?_⟩
  refine attr_of hab (thn (he.run pins s σ H _ I h) fun u s1 ⟨x, H1, I1, rx, a, dx, fs, ex, ea, q⟩ => ?_)
  subst ex
  obtain rfl : u = Value.ref a := rx
  obtain ⟨mA, O, _, _, _, _⟩ := ins_get I1.hok ea
  obtain ⟨od, J, _⟩ := O.look
  obtain ⟨rest, hrec⟩ := hp.rec_
  have I2 := I1.tok (s1.toks + 1)
  have hc : (PySem.W.clsIn X.K C).isSome = true := by
    obtain ⟨cd, hc, _⟩ := PySem.W.any_some c.hd
    rw [hc]
    rfl
  refine PySem.W.get_bind I1.kIn J (PySem.W.plainGet_of (c.get n)).1 (PySem.W.findObj_data hc hp.at_ hp.get hp.tak) (PySem.W.plainGet_of (c.get n)).2 (wpAny_call (PySem.W.prop_get (s := { s1 with toks := s1.toks + 1 }) I1.kIn hrec ?_))
  refine codeAny_mono (run_fnG1 (us := [.ref a]) (vs := [.ref a]) F hr hgd I2 (.cons rfl .nil) q) fun r s' hq => ?_
  cases r with
  | error er =>
    have hq : X.xe er s' := hq
    rw [hxe] at hq
    exact False.elim hq
  | ok fl =>
    cases fl with
    | ret u =>
      obtain ⟨v, H', I3, rv, q3⟩ := hq
      show wpAny _ _ (handedOut u) _ _ _
      rw [PySem.W.handedOut_of (handed_of rv)]
      exact wpAny_pure ⟨v, H', I3, rv, q3⟩
    | next => exact False.elim hq
    | brk => exact False.elim hq
    | cont => exact False.elim hq
theorem meth_eq {o : Expr} {m : Str} {args : List Expr} {apos pos : Pos} {env : PySem.Env} (hb : attributeBase o m env (eval o env) = eval o env) (hf : methodCallForm (args.length + ([] : List Keyword).length) (backTo pos (starEach args env)) (backToKw pos (keywordEach [] env)) = true) (hl : (apos.endLine == pos.line) = true) :
    eval (.Call (.Attribute o m apos) args [] pos) env = (do
      let ov ← eval o env
      standAt apos.atName
      let (f, first) ← holding [ov] (getMethod ov m (do return (← importBound o env).getD true))
      callWith pos f first (backTo pos (starEach args env)) (backToKw pos (keywordEach [] env))) := by
  show (do
    let ov ← attributeBase o m env (eval o env)
    standAt apos.atName
    methodCall o m apos pos env ov (args.length + ([] : List Keyword).length) (backTo pos (starEach args env)) (backToKw pos (keywordEach [] env))) = _
  rw [hb]
  unfold methodCall
  rw [hf]
  unfold calleeOf methodCallPos
  rw [hl]
  rfl
theorem form_ok {args : List Expr} (h : args.all notStar = true) (hl : args.length < 25) {pos : Pos} {env : PySem.Env} : methodCallForm (args.length + ([] : List Keyword).length) (backTo pos (starEach args env)) (backToKw pos (keywordEach [] env)) = true := by
  have e1 : (backTo pos (starEach args env)).any (·.1) = false := star_all h env pos
  have e2 : (backTo pos (starEach args env)).all (!·.1) = true := by
    rw [List.all_eq_true]
    intro x hx
    rw [List.any_eq_false] at e1
    have := e1 x hx
    simpa using this
  unfold methodCallForm
  rw [e2]
  have e3 : backToKw pos (keywordEach [] env) = [] := rfl
  rw [e3]
  simp
  omega
theorem pe_methG {on : Str} {op : Pos} (he : PE X (.Name on op) ta) (c : Cls X.K C) (hm : Meth X.K C m g) (F : FnG X.prog X.w X.K X.mg X.base κ gb k g fn) (hr : Room k X.A) (hgd : gb = true → X.A.guards = some []) (ha : PA X (e :: es) t) (hst : (e :: es).all notStar = true) (hl : (apos.endLine == pos.line) = true) (hn : (e :: es).length < 25) :
    PE X (.Call (.Attribute (.Name on op) m apos) (e :: es) [] pos) (fun σ H Q => ta σ H fun x H1 => ∃ a dx fs, x = .ref a ∧ H1 a = some (.ins C dx fs) ∧ fs.lookup m = none ∧ t σ H1 fun vs H2 => SpF κ X.K fn (x :: vs) H2 Q) := by
  refine ⟨fun pins s σ H Q I h => ?_⟩
  refine PySem.W.methodCall_KW (thn (he.run pins s σ H _ I h) fun u s1 ⟨x, H1, I1, rx, a, dx, fs, ex, ea, l, q⟩ => ?_) (meth_eq (base_no rfl _ _ _) (form_ok hst hn) hl)
  rw [List.all_cons, Bool.and_eq_true] at hst
  subst ex
  obtain rfl : u = Value.ref a := rx
  refine getmeth_ok I1 ea c hm l ?_
  refine PySem.W.callWith_K (first := [.ref a]) (h₀ := X.base) I.ok.mod.kin hm.kp (thn (ha.run pos pins s1 σ H1 _ I1 q) fun us s2 ⟨vs, H2, I2, r, q2⟩ => ⟨I2.kIn, ?_⟩) (star_no hst.1 es X.env) (star_all hst.2 X.env pos)
  exact wpAny_call (run_fnG (us := .ref a :: us) (vs := .ref a :: vs) F hr hgd I2 (.cons rfl r) q2)
theorem pe_methG0 {on : Str} {op : Pos} (he : PE X (.Name on op) ta) (c : Cls X.K C) (hm : Meth X.K C m g) (F : FnG X.prog X.w X.K X.mg X.base κ gb k g fn) (hr : Room k X.A) (hgd : gb = true → X.A.guards = some []) (hl : (apos.endLine == pos.line) = true) :
    PE X (.Call (.Attribute (.Name on op) m apos) [] [] pos) (fun σ H Q => ta σ H fun x H1 => ∃ a dx fs, x = .ref a ∧ H1 a = some (.ins C dx fs) ∧ fs.lookup m = none ∧ SpF κ X.K fn [x] H1 Q) := by
  refine ⟨fun pins s σ H Q I h => ?_⟩
  refine PySem.W.methodCall_KW (thn (he.run pins s σ H _ I h) fun u s1 ⟨x, H1, I1, rx, a, dx, fs, ex, ea, l, q⟩ => ?_) (meth_eq (base_no rfl _ _ _) (form_ok rfl (by decide)) hl)
  subst ex
  obtain rfl : u = Value.ref a := rx
  refine getmeth_ok I1 ea c hm l ?_
  exact PySem.W.callWith_K0 (first := [.ref a]) I1.kIn hm.kp (wpAny_call (run_fnG (us := [.ref a]) (vs := [.ref a]) F hr hgd I1 (.cons rfl .nil) q))
theorem pe_itemG (ho : PE X o ta) (hi : PE X e te) (hs : PySem.W.findIn X.K (.ref C) "__getitem__" = some (some (.ref g))) (hf : PySem.W.fnIn X.K g = true) (hfn : PySem.W.isFn X.K (.ref g) = true) (F : FnG X.prog X.w X.K X.mg X.base κ gb k g fn) (hr : Room (k + 1) X.A) (hgd : gb = true → X.A.guards = some []) (hsl : notSlice e = true) :
    PE X (.Subscript o e pos) (fun σ H Q => ta σ H fun x H1 => te σ H1 fun y H2 => ∃ a dx fs, x = .ref a ∧ H2 a = some (.ins C dx fs) ∧ SpF κ X.K fn [x, y] H2 Q) := by
  refine ⟨fun pins s σ H Q I h => ?_⟩
  refine Subscript_ (binT ho hi I (R := fun x y H2 => ∃ a dx fs, x = .ref a ∧ H2 a = some (.ins C dx fs) ∧ SpF κ X.K fn [x, y] H2 Q) h fun v u s2 x y H2 I2 rx ry q => ?_)
  obtain ⟨a, dx, fs, ex, ea, q⟩ := q
  subst ex
  obtain rfl : v = Value.ref a := rx
  obtain ⟨mA, O, _, _, _, _⟩ := ins_get I2.hok ea
  obtain ⟨od, J, _⟩ := O.look
  obtain ⟨m0, hfr⟩ := I2.fr
  refine PySem.W.sub_K hfr I2.mod.kin J hs hf hfn (wpAny_call (run_fnG1 (us := [.ref a, u]) (vs := [.ref a, y]) F hr hgd I2 (.cons rfl (.cons ry .nil)) q)) ?_
  cases e <;> first
    | rfl
    | cases hsl
theorem pe_lenG {q' : Pos} (hg : Gl X "len") (hm : X.mg "len" = none) (ho : PE X o ta) (hx : notStar o = true) (hs : PySem.W.findIn X.K (.ref C) "__len__" = some (some (.ref g))) (hfn : PySem.W.isFn X.K (.ref g) = true) (F : FnG X.prog X.w X.K X.mg X.base κ gb k g fn) (hr : Room (k + 1) X.A) (hgd : gb = true → X.A.guards = some []) :
    PE X (.Call (.Name "len" q') [o] [] pos) (fun σ H Q => ta σ H fun x H1 => ∃ a dx fs, x = .ref a ∧ H1 a = some (.ins C dx fs) ∧ SpF κ X.K fn [x] H1 fun v H2 => ∃ n : Int, v = .int n ∧ 0 ≤ n ∧ n < 2 ^ 63 ∧ Q (.int n) H2) := by
  refine ⟨fun pins s σ H Q I h => ?_⟩
  refine Call_ (ld_blt I hg hm boot_len ?_)
  refine PyProof.Rows.callWith_builtin1 (PyProof.Rows.args_cons (thn (ho.run pins s σ H _ I h) fun u s1 ⟨x, H1, I1, rx, a, dx, fs, ex, ea, q⟩ => PyProof.Rows.args_nil ?_) (star_no hx [] X.env)) (star_no hx [] X.env) rfl
  subst ex
  obtain rfl : u = Value.ref a := rx
  obtain ⟨mA, O, _, _, _, _⟩ := ins_get I1.hok ea
  obtain ⟨od, J, _⟩ := O.look
  obtain ⟨m0, hfr⟩ := I1.fr
  refine PySem.W.len_K hfr I1.mod.kin J hs hfn (thn (wpAny_call (run_fnG1 (us := [.ref a]) (vs := [.ref a]) F hr hgd I1 (.cons rfl .nil) q)) fun v s2 ⟨y, H2, I2, ry, n, en, n0, n1, q2⟩ => ?_)
  subst en
  obtain ⟨tk, rfl⟩ := (show ∃ t, v = Value.int n t from ry)
  exact ⟨⟨n0, n1⟩, ⟨.int n, H2, I2.tok _, ⟨_, rfl⟩, q2⟩⟩
theorem pe_clsmG {on : Str} {op : Pos} (he : PE X (.Name on op) ta) (r : ClX.CRead X.K C mc) (c : ClX.CMet X.K C mc m p g) (F : FnG X.prog X.w X.K X.mg X.base κ gb k g fn) (hr : Room k X.A) (hgd : gb = true → X.A.guards = some []) (ha : PA X (e :: es) t) (hst : (e :: es).all notStar = true) (hl : (apos.endLine == pos.line) = true) (hn : (e :: es).length < 25) :
    PE X (.Call (.Attribute (.Name on op) m apos) (e :: es) [] pos) (fun σ H Q => ta σ H fun x H1 => x = .ref C ∧ t σ H1 fun vs H2 => SpF κ X.K fn (.ref C :: vs) H2 Q) := by
  refine ⟨fun pins s σ H Q I h => ?_⟩
  refine PySem.W.methodCall_KW (thn (he.run pins s σ H _ I h) fun u s1 ⟨x, H1, I1, rx, ex, q⟩ => ?_) (meth_eq (base_no rfl _ _ _) (form_ok hst hn) hl)
  rw [List.all_cons, Bool.and_eq_true] at hst
  subst ex
  obtain rfl : u = Value.ref C := rx
  refine ClX.getmethcm_ok I1 r c fun s2 I2 => ?_
  refine ClX.callwith_cm I2 (ClX.base_none I1 (Nat.le_refl _)) c.fi (thn (ha.run pos _ s2 σ H1 _ I2 q) fun us s3 ⟨vs, H2, I3, rv, q2⟩ => ⟨⟨ClX.pin_at I3, I3.kIn⟩, ?_⟩) (star_no hst.1 es X.env) (star_all hst.2 X.env pos)
  have z := wpAny_call (PySem.W.method_call (ClX.pin_at I3) (run_fnG (us := .ref C :: us) (vs := .ref C :: vs) F hr hgd I3 (.cons rfl rv) q2))
  exact thn z fun _ _ y => ClX.unpinE y
theorem pe_mkG {on : Str} {op : Pos} (he : PE X (.Name on op) ta) (kp : PySem.W.keepIn X.K (.ref C) = true) {fam : Nat → Fn} (F : ∀ n, FnG X.prog X.w X.K X.mg X.base κ gb k C (fam n)) (hr : Room k X.A) (hgd : gb = true → X.A.guards = some []) (ha : PA X (e :: es) t) (hx : notStar e = true) :
    PE X (.Call (.Name on op) (e :: es) [] pos) (fun σ H Q => ta σ H fun x H1 => x = .ref C ∧ t σ H1 fun vs H2 => ∃ n, SpF κ X.K (fam n) vs H2 Q) := by
  refine ⟨fun pins s σ H Q I h => ?_⟩
  refine wpAny_Call_Name_kw (thn (he.run pins s σ H _ I h) fun u s1 ⟨x, H1, I1, rx, ex, q⟩ => ?_)
  subst ex
  obtain rfl : u = Value.ref C := rx
  have body := thn (ha.run pos pins s1 σ H1 _ I1 q) fun us s2 ⟨vs, H2, I2, r, n, q2⟩ => (show X.K.In s2.heap ∧ wpAny (model X.prog X.w) X.A (call (.ref C) us) (EP X pins σ Q) X.xe s2 from ⟨I2.kIn, wpAny_call (run_fnG (us := us) (vs := vs) (F n) hr hgd I2 r q2)⟩)
  cases hb : (backTo pos (starEach es X.env)).any (·.1) with
  | true => exact PySem.W.callWith_S2 (h₀ := X.base) I.ok.mod.kin kp body (star_no hx es X.env) hb
  | false => exact PySem.W.callWith_K (h₀ := X.base) I.ok.mod.kin kp body (star_no hx es X.env) hb
theorem pe_calloG {on : Str} {op : Pos} (he : PE X (.Name on op) ta) (c : StX.CallO X.K C g) (F : FnG X.prog X.w X.K X.mg X.base κ gb k g fn) (hr : Room k X.A) (hgd : gb = true → X.A.guards = some []) (ha : PA X (e :: es) t) (hst : (e :: es).all notStar = true) :
    PE X (.Call (.Name on op) (e :: es) [] pos) (fun σ H Q => ta σ H fun x H1 => ∃ a, x = .ref a ∧ t σ H1 fun vs H2 => (∃ dx fs, H2 a = some (.ins C dx fs)) ∧ SpF κ X.K fn (x :: vs) H2 Q) := by
  rw [List.all_cons, Bool.and_eq_true] at hst
  refine ⟨fun pins s σ H Q I h => ?_⟩
  refine wpAny_Call_Name_kw (thn (he.run pins s σ H _ I h) fun u s1 ⟨x, H1, I1, rx, a, ex, q⟩ => ?_)
  subst ex
  obtain rfl : u = Value.ref a := rx
  refine StX.callO_with (thn (ha.run pos pins s1 σ H1 _ I1 q) fun us s2 ⟨vs, H2, I2, r, ⟨dx, fs, hi⟩, q2⟩ => ?_) (star_no hst.1 es X.env) (star_all hst.2 X.env pos)
  obtain ⟨ox, od, J, hd⟩ := StX.insC_at I2 (C := C) (.inr ⟨dx, fs, hi⟩)
  refine ⟨⟨C, ox, od, J, hd⟩, ?_⟩
  exact wpAny_call (PySem.W.kco_code I2.kIn J hd c.at_ c.fn c.fi (run_fnG (us := .ref a :: us) (vs := .ref a :: vs) F hr hgd I2 (.cons rfl r) q2))
end
end
end DT

end
section
/-! DT: the kinds of calls, as rules of the form; isinstance, dicts, sets, letters. -/
namespace DT
open PySem PySem.Spec PyProof.Rows L2

section
variable {κ : Cs} {Γ : Nat → Option Fn} {nm : Nm} {gl : Str → Option D} {L : Nat} {N : List Str} {X : Cx} {sc : Scope} {fp : Str → Bool}
theorem Good.room0 (G : Good κ Γ nm gl L N X sc fp) : Room L X.A := G.room.mono (Nat.le_succ L)
theorem insQ {K : PySem.W.Frag} {F H : Hp} {c : Str} {ds : List D} {v : V} (h : RepQ κ K F H (.ins c ds) v) : Rep κ F (.ins c ds) v := h
theorem clsQ {K : PySem.W.Frag} {F H : Hp} {c : Str} {v : V} (h : RepQ κ K F H (.cls c) v) : Rep κ F (.cls c) v := h
theorem dicQ {K : PySem.W.Frag} {F H : Hp} {ks : List Int} {ds : List D} {v : V} (h : RepQ κ K F H (.dic ks ds) v) : Rep κ F (.dic ks ds) v := h
theorem s_prop (G : Good κ Γ nm gl L N X sc fp) {t : Bool} {f : Nat} {c pn : Str} {e : E} {y : Expr} {n : Str} {pos : Pos} (hk : nm.kd f = .prop c pn) (hn : n = pn) (he : PE X y (TEv κ Γ gl X.K e)) (hy : notCall y = true) : SndE κ Γ gl X t (.callm f e []) (.Attribute y n pos) := by
  subst hn
  cases hf : Γ f with
  | none => exact callm_none hf rfl
  | some fn =>
    have k := G.tab.fns f fn hf
    rw [hk] at k
    obtain ⟨C, pa, g, hC, cl, hp, mf, h1, F⟩ := k
    refine snd_plain (PE.imp (pe_propG he cl hp F G.room G.gd G.xe (base_no hy n X.env _)) fun σ H Q q => ?_) rfl
    refine callm_run hf mf.val mf.len q fun F1 H1 x d le rq ⟨ds, r, hr⟩ k => ?_
    obtain ⟨fs, rfl⟩ := mf.recv _ _ _ hr
    have rq := insQ rq
    obtain ⟨a, C', dx, vs, rfl, hC', hF, _⟩ := rq.insE
    rw [hC] at hC'
    cases hC'
    exact ⟨a, dx, _, rfl, le a _ hF, (tav_nil (k rq)).1⟩
theorem s_meth (G : Good κ Γ nm gl L N X sc fp) {t : Bool} {f : Nat} {c m : Str} {e : E} {es : List E} {on n : Str} {zs : List Expr} {op apos pos : Pos} (hk : nm.kd f = .meth c m) (hn : n = m) (he : PE X (.Name on op) (TEv κ Γ gl X.K e)) (ha : PA X zs (TAv κ Γ gl X.K es)) (hst : zs.all notStar = true) (hl : (apos.endLine == pos.line) = true) (hz : zs.length < 25) (hem : es.isEmpty = zs.isEmpty) :
    SndE κ Γ gl X t (.callm f e es) (.Call (.Attribute (.Name on op) n apos) zs [] pos) := by
  subst hn
  cases hf : Γ f with
  | none => exact callm_none hf rfl
  | some fn =>
    have k := G.tab.fns f fn hf
    rw [hk] at k
    obtain ⟨C, g, hC, cl, hm, hnf, mf, F⟩ := k
    cases zs with
    | nil =>
      have ee : es = [] := by cases es with
        | nil => rfl
        | cons _ _ => cases hem
      subst ee
      refine snd_plain (PE.imp (pe_methG0 he cl hm F G.room0 G.gd hl) fun σ H Q q => ?_) rfl
      refine callm_run hf mf.val mf.len q fun F1 H1 x d le rq ⟨ds, r, hr⟩ k => ?_
      obtain ⟨fs, rfl⟩ := mf.recv _ _ _ hr
      have rq := insQ rq
      obtain ⟨a, C', dx, vs, rfl, hC', hF, _⟩ := rq.insE
      rw [hC] at hC'
      cases hC'
      exact ⟨a, dx, _, rfl, le a _ hF, lookup_none hnf vs, (tav_nil (k rq)).1⟩
    | cons z zs =>
      refine snd_plain (PE.imp (pe_methG he cl hm F G.room0 G.gd ha hst hl hz) fun σ H Q q => ?_) rfl
      refine callm_run hf mf.val mf.len q fun F1 H1 x d le rq ⟨ds, r, hr⟩ k => ?_
      obtain ⟨fs, rfl⟩ := mf.recv _ _ _ hr
      have rq := insQ rq
      obtain ⟨a, C', dx, vs, rfl, hC', hF, _⟩ := rq.insE
      rw [hC] at hC'
      cases hC'
      obtain ⟨F2, ρ, ps, ρ', rel, ev, kk⟩ := k rq
      exact ⟨a, dx, _, rfl, le a _ hF, lookup_none hnf vs, F2, ρ, ps, ρ', rel, ev, fun F' H' vs s r => (kk F' H' vs s r).1⟩
theorem s_item (G : Good κ Γ nm gl L N X sc fp) {t : Bool} {f : Nat} {c : Str} {e e1 : E} {y z : Expr} {pos : Pos} (hk : nm.kd f = .item c) (h1 : ∀ ρ, evEs Γ gl [e1] ρ = bnd2 (evE Γ gl e1 ρ) fun p ρ1 => bnd2 (evEs Γ gl [] ρ1) fun ps ρ2 => some (p :: ps, ρ2))
    (he : PE X y (TEv κ Γ gl X.K e)) (hi : PE X z (TEv κ Γ gl X.K e1)) (hz : notSlice z = true) : SndE κ Γ gl X t (.callm f e [e1]) (.Subscript y z pos) := by
  cases hf : Γ f with
  | none => exact callm_none hf rfl
  | some fn =>
    have k := G.tab.fns f fn hf
    rw [hk] at k
    obtain ⟨C, g, hC, hs, hfi, hfn, mf, F⟩ := k
    refine snd_plain (PE.imp (pe_itemG he hi hs hfi hfn F G.room G.gd hz) fun σ H Q q => ?_) rfl
    refine callm_run hf mf.val mf.len q fun F1 H1 x d le rq ⟨ds, r, hr⟩ k => ?_
    obtain ⟨fs, rfl⟩ := mf.recv _ _ _ hr
    have rq := insQ rq
    obtain ⟨a, C', dx, vs, rfl, hC', hF, _⟩ := rq.insE
    rw [hC] at hC'
    cases hC'
    have z := tav_one h1 (k rq)
    obtain ⟨F2, ρ, p, ρ', rel, ev, kk⟩ := z
    exact ⟨F2, ρ, p, ρ', rel, ev, fun F' H' v s r => ⟨a, dx, _, rfl, (kk F' H' v s r).2.1 a _ hF, (kk F' H' v s r).1⟩⟩
theorem SpF.int {K : PySem.W.Frag} {fn : Fn} {x : V} {H : Hp} {Q : VK} (hl : ∀ ds r, fn.run ds = some r → ds.length = fn.modes.length) (h1 : fn.modes.length = 1) (hr : ∀ d r, fn.run [d] = some r → ∃ n : Int, r = (.val (.int n), []) ∧ 0 ≤ n ∧ n < 2 ^ 63) (h : SpF κ K fn [x] H Q) :
    SpF κ K fn [x] H fun v H2 => ∃ n : Int, v = .int n ∧ 0 ≤ n ∧ n < 2 ^ 63 ∧ Q (.int n) H2 := by
  obtain ⟨F, ds, ρ0, w, outs, a0, rel, run, fin⟩ := h
  refine ⟨F, ds, ρ0, w, outs, a0, rel, run, fun F' H' v af => ?_⟩
  have e := hl _ _ run
  rw [h1] at e
  obtain ⟨d, rfl⟩ := List.length_eq_one_iff.mp e
  obtain ⟨n, er, n0, n1⟩ := hr d _ run
  cases er
  have z : Rep κ F' (.int n) v := af.res
  unfold Rep at z
  subst z
  exact ⟨n, rfl, n0, n1, fin F' H' _ af⟩
theorem s_lenO (G : Good κ Γ nm gl L N X sc fp) {t : Bool} {f : Nat} {c : Str} {e : E} {y : Expr} {q' pos : Pos} (hk : nm.kd f = .len c) (hg : isGl sc "len" = true) (he : PE X y (TEv κ Γ gl X.K e)) (hy : notStar y = true) : SndE κ Γ gl X t (.callm f e []) (.Call (.Name "len" q') [y] [] pos) := by
  cases hf : Γ f with
  | none => exact callm_none hf rfl
  | some fn =>
    have k := G.tab.fns f fn hf
    rw [hk] at k
    obtain ⟨C, g, hC, hs, hfn, mf, hint, F⟩ := k
    refine snd_plain (PE.imp (pe_lenG (G.gl' hg) (G.blt (by decide)) he hy hs hfn F G.room G.gd) fun σ H Q q => ?_) rfl
    refine callm_run hf mf.val mf.len q fun F1 H1 x d le rq ⟨ds, r, hr⟩ k => ?_
    obtain ⟨fs, rfl⟩ := mf.recv _ _ _ hr
    have rq := insQ rq
    obtain ⟨a, C', dx, vs, rfl, hC', hF, _⟩ := rq.insE
    rw [hC] at hC'
    cases hC'
    have z := tav_nil (k rq)
    have hm1 : fn.modes.length = 1 := by
      obtain ⟨F2, ds2, ρ2, w, outs, a0, rel, run, fin⟩ := z.1
      have l1 := rel.len
      have l2 : ρ2.length = fn.modes.length := by
        have : ∀ {ms : List Mode} {ds : List D} {ρ : Ro}, args0 ms ds = some ρ → ρ.length = ms.length := by
          intro ms
          induction ms with
          | nil => intro ds ρ h; cases ds <;> (unfold args0 at h; cases h); rfl
          | cons m ms ih =>
            intro ds ρ h
            cases ds with
            | nil => cases m <;> (unfold args0 at h; cases h)
            | cons d ds =>
              have gen : ∀ w : Option W, (args0 ms ds).map (w :: ·) = some ρ → ρ.length = (m :: ms).length := fun w z => by
                cases q : args0 ms ds with
                | none => rw [q] at z; cases z
                | some r =>
                  rw [q] at z
                  cases z
                  show r.length + 1 = ms.length + 1
                  rw [ih q]
              cases m with
              | val => exact gen _ h
              | own => cases d <;> first | exact gen _ h | cases h
              | bor => cases d <;> first | exact gen _ h | cases h
        exact this a0
      rw [← l2, l1]
      rfl
    exact ⟨a, dx, _, rfl, le a _ hF, SpF.int mf.len hm1 hint z.1⟩
theorem s_clsm (G : Good κ Γ nm gl L N X sc fp) {t : Bool} {f : Nat} {c m : Str} {e : E} {es : List E} {on n : Str} {z : Expr} {zs : List Expr} {op apos pos : Pos} (hk : nm.kd f = .clsm c m) (hn : n = m) (he : PE X (.Name on op) (TEv κ Γ gl X.K e)) (ha : PA X (z :: zs) (TAv κ Γ gl X.K es)) (hst : (z :: zs).all notStar = true) (hl : (apos.endLine == pos.line) = true) (hz : zs.length < 24) :
    SndE κ Γ gl X t (.callm f e es) (.Call (.Attribute (.Name on op) n apos) (z :: zs) [] pos) := by
  subst hn
  cases hf : Γ f with
  | none => exact callm_none hf rfl
  | some fn =>
    have k := G.tab.fns f fn hf
    rw [hk] at k
    obtain ⟨C, mc, p, g, hC, cr, cm, mf, F⟩ := k
    refine snd_plain (PE.imp (pe_clsmG he cr cm F G.room0 G.gd ha hst hl (by simp; omega)) fun σ H Q q => ?_) rfl
    refine callm_run hf mf.val mf.len q fun F1 H1 x d le rq ⟨ds, r, hr⟩ k => ?_
    have ed := mf.recv _ _ _ hr
    subst ed
    have rq := clsQ rq
    obtain ⟨C', rfl, hC'⟩ := rq.clsE
    rw [hC] at hC'
    cases hC'
    obtain ⟨F2, ρ, ps, ρ', rel, ev, kk⟩ := k rq
    exact ⟨rfl, F2, ρ, ps, ρ', rel, ev, fun F' H' vs s r => (kk F' H' vs s r).1⟩
/-- values alone -/
theorem vals_ok {K : PySem.W.Frag} {F H F1 H1 : Hp} {ρ ρ1 ρ2 : Ro} {σ : L2.St} (s : Step κ K F ρ σ H F1 ρ1 σ H1) {fn : Fn} {ps : List Pl} {vs : List V} {ds : List D} {w : W} {Q : VK} (hp : RepPs κ F1 ρ1 σ H H1 ps vs) (e1 : toVals ρ1 ps = some (ds, ρ2))
    (hm : ∀ m ∈ fn.modes, m = .val) (hl : fn.modes.length = ps.length) (e3 : fn.run ds = some (w, [])) (Y : Yld κ K F ρ σ H ρ2 (.tmp w) Q) : SpF κ K fn vs H1 Q := by
  refine call_ok (ps := ps) (vals := ds) (ds := ds) (ρ2 := ρ2) (outs := []) s hp (by rw [allV_val hm hl]; exact e1) (allV_merge ρ2 hm hl (toVals_len e1)) ?_ e3 (by rw [allV_back ρ2 hm]; exact Y)
  unfold okSlots
  rw [allV_own hm]
  rfl
theorem s_mk (G : Good κ Γ nm gl L N X sc fp) {t : Bool} {f : Nat} {c : Str} {e : E} {es : List E} {on : Str} {z : Expr} {zs : List Expr} {op pos : Pos} (hk : nm.kd f = .mk c) (he : PE X (.Name on op) (TEv κ Γ gl X.K e)) (ha : PA X (z :: zs) (TAv κ Γ gl X.K es)) (hz : notStar z = true) :
    SndE κ Γ gl X t (.callm f e es) (.Call (.Name on op) (z :: zs) [] pos) := by
  cases hf : Γ f with
  | none => exact callm_none hf rfl
  | some fn =>
    have k := G.tab.fns f fn hf
    rw [hk] at k
    obtain ⟨C, hC, kp, mf, FF⟩ := k
    refine snd_plain (PE.imp (pe_mkG he kp FF G.room0 G.gd ha hz) fun σ H Q q => ?_) rfl
    obtain ⟨F, ρ, p, ρ', rel, e, Y⟩ := q
    unfold evE at e
    obtain ⟨p1, ρ1, h1, e⟩ := bnd2_of e
    obtain ⟨d, g1, e⟩ := bnd1_of e
    obtain ⟨fn', g0, e⟩ := bnd1_of e
    rw [hf] at g0
    cases g0
    obtain ⟨ps, ρ2, h2, e⟩ := bnd2_of e
    obtain ⟨ds, ρ3, h3, e⟩ := bnd2_of e
    obtain ⟨w, outs, h4, e⟩ := bnd2_of e
    obtain ⟨co, e⟩ := req_of e
    cases e
    have eo : outs = [] := by cases outs with
      | nil => rfl
      | cons _ _ => cases co
    subst eo
    have ed := mf _ _ _ h4
    subst ed
    refine one (R := fun x H1 => x = .ref C ∧ TAv κ Γ gl X.K es σ H1 fun vs H2 => ∃ n, SpF κ X.K (mkFn fn c n) vs H2 Q) rel h1 fun F1 H1 u s1 r1 => ?_
    have rq := clsQ (getQ_rep (K := X.K) s1.rel r1 g1)
    obtain ⟨C', rfl, hC'⟩ := rq.clsE
    rw [hC] at hC'
    cases hC'
    refine ⟨rfl, F1, ρ1, ps, ρ2, s1.rel, h2, fun F2 H2 vs s2 r2 => ⟨ps.length, ?_⟩⟩
    refine vals_ok (s1.trans s2) (r2.early fun a z => s1.none_back z) h3 (fun m hm => (List.mem_replicate.mp hm).2) (List.length_replicate ..) ?_ Y
    show (if ds.length = ps.length then fn.run (.cls c :: ds) else none) = _
    rw [if_pos (toVals_len h3).symm, h4]
theorem s_callo (G : Good κ Γ nm gl L N X sc fp) {t : Bool} {f : Nat} {c : Str} {e : E} {es : List E} {on : Str} {z : Expr} {zs : List Expr} {op pos : Pos} (hk : nm.kd f = .callo c) (he : PE X (.Name on op) (TEv κ Γ gl X.K e)) (ha : PA X (z :: zs) (TAv κ Γ gl X.K es)) (hst : (z :: zs).all notStar = true) :
    SndE κ Γ gl X t (.callm f e es) (.Call (.Name on op) (z :: zs) [] pos) := by
  cases hf : Γ f with
  | none => exact callm_none hf rfl
  | some fn =>
    have k := G.tab.fns f fn hf
    rw [hk] at k
    obtain ⟨C, g, hC, co, mf, F⟩ := k
    refine snd_plain (PE.imp (pe_calloG he co F G.room0 G.gd ha hst) fun σ H Q q => ?_) rfl
    refine callm_run hf mf.val mf.len q fun F1 H1 x d le rq ⟨ds, r, hr⟩ k => ?_
    obtain ⟨fs, rfl⟩ := mf.recv _ _ _ hr
    have rq := insQ rq
    obtain ⟨a, C', dx, vs, rfl, hC', hF, _⟩ := rq.insE
    rw [hC] at hC'
    cases hC'
    obtain ⟨F2, ρ, ps, ρ', rel, ev, kk⟩ := k rq
    exact ⟨a, rfl, F2, ρ, ps, ρ', rel, ev, fun F' H' vs s r => ⟨⟨dx, _, (kk F' H' vs s r).2.1 a _ hF⟩, (kk F' H' vs s r).1⟩⟩
end
end DT

end
section
/-! DT: suite + tuple, by the class's own def. -/
namespace DT
open PySem PySem.Spec PyProof.Rows L2
section
variable {prog : Program} {w : World} {A : Around} {E : Value → Shared → Prop} {s : Shared} {K : PySem.W.Frag} {a C g b : Addr} {ox : Obj} {od : Option Obj} {ob : Obj}
theorem own_add_tup {Q : Value → Shared → Prop} (XK : K.In s.heap) (J : PySem.W.InstAt s.heap a ox C od) (c : AddO K C g) (hb : s.heap.get? b = some ob) (hc : ob.cls = .type "tuple")
    (h : wpAny (model prog w) A (call (.ref g) [.ref a, .ref b]) (PySem.W.CmpBack Q) E s) : wpAny (model prog w) A (binaryOp .Add (.ref a) (.ref b)) Q E s := by
  obtain ⟨cd, rest, k1, k2⟩ := PySem.W.ksp_first c.first
  have LB : PySem.W.Looks (model prog w) s.heap (typeOf (.ref b)) (.type "tuple") := hc ▸ (PySem.W.Looks.ld hb).andThen .now
  have LF : PySem.W.Looks (model prog w) s.heap (fillsNumberSlot (.ref C) "add") true := PySem.W.fills_K XK k1 k2 c.at_
  have ne : (Value.ref C == Value.type "tuple") = false := by
    cases q : Value.ref C == Value.type "tuple" with
    | false => rfl
    | true => cases beq_iff_eq.mp q
  have T := PySem.W.ksp_try XK J c.at_ c.fn h
  have main : wpAny (model prog w) A (binaryOp1 "add" (.ref a) (.ref b)) (fun r s' => ∃ v, r = some v ∧ Q v s') E s := by
    unfold binaryOp1
    refine wpAny_bind (J.type.here ?_)
    refine wpAny_bind (LB.here ?_)
    refine wpAny_bind (LF.here ?_)
    rw [ne]
    simp only [Bool.false_eq_true, if_false, noFill_tuple_add]
    refine wpAny_bind ?_
    refine wpAny_pure ?_
    simp only [Bool.and_false, Bool.false_eq_true, if_false, Bool.false_and]
    refine wpAny_bind (wpAny_pure ?_)
    simp only [Bool.false_eq_true, if_false, if_true]
    refine wpAny_bind (wpAny_mono T (fun r s' z => ?_) fun _ _ e => e)
    obtain ⟨v, rfl, q⟩ := z
    exact wpAny_pure ⟨v, rfl, q⟩
  unfold binaryOp
  refine wpAny_holding ?_
  refine wpAny_bind (wpAny_mono main (fun r s' z => ?_) fun _ _ e => e)
  obtain ⟨v, rfl, q⟩ := z
  exact wpAny_pure q
end
section
variable {κ : Cs} {X : Cx} {o e : Expr} {ta te : TE} {C g : Addr} {gb : Bool} {k : Nat} {fn : Fn} {pos : Pos}
theorem cmpBack_EP {pins : List (Addr × Obj)} {σ : L2.St} {Q : VK} {v : Value} {s : Shared} (h : EP X pins σ Q v s) : PySem.W.CmpBack (EP X pins σ Q) v s := by
  unfold PySem.W.CmpBack
  split
  · obtain ⟨y, H', I', ry, q⟩ := h
    cases y <;> first | exact absurd ry (by simp [RelV]) | (obtain ⟨_, ry⟩ := ry; cases ry) | cases ry
  · exact h
theorem pe_addG (ho : PE X o ta) (hi : PE X e te) (c : AddO X.K C g) (F : FnG X.prog X.w X.K X.mg X.base κ gb k g fn) (hr : Room k X.A) (hgd : gb = true → X.A.guards = some []) :
    PE X (.BinOp o .Add e pos) (fun σ H Q => ta σ H fun x H1 => te σ H1 fun y H2 => ∃ a dx fs b xs, x = .ref a ∧ H2 a = some (.ins C dx fs) ∧ y = .ref b ∧ SqT X.K H2 b xs ∧ SpF κ X.K fn [x, y] H2 Q) := by
  refine ⟨fun pins s σ H Q I h => ?_⟩
  refine wpAny_BinOp (binT ho hi I (R := fun x y H2 => ∃ a dx fs b xs, x = .ref a ∧ H2 a = some (.ins C dx fs) ∧ y = .ref b ∧ SqT X.K H2 b xs ∧ SpF κ X.K fn [x, y] H2 Q) h fun v u s2 x y H2 I2 rx ry q => ?_)
  obtain ⟨a, dx, fs, b, xs, ex, ea, ey, hb, q⟩ := q
  subst ex
  subst ey
  obtain rfl : v = Value.ref a := rx
  obtain rfl : u = Value.ref b := ry
  obtain ⟨mA, O, _, _, _, _⟩ := ins_get I2.hok ea
  obtain ⟨od, J, _⟩ := O.look
  obtain ⟨its, _, ⟨ob, e1, e2, _⟩, _⟩ := I2.tuple hb
  refine own_add_tup I2.kIn J c e1 e2 (wpAny_mono (wpAny_call (run_fnG (us := [.ref a, .ref b]) (vs := [.ref a, .ref b]) F hr hgd I2 (.cons rfl (.cons rfl .nil)) q)) (fun v s' z => cmpBack_EP z) fun _ _ z => z)
end
section
variable {κ : Cs} {Γ : Nat → Option Fn} {nm : Nm} {gl : Str → Option D} {L : Nat} {N : List Str} {X : Cx} {sc : Scope} {fp : Str → Bool}
theorem SpF.tup {K : PySem.W.Frag} {fn : Fn} {x y : V} {H : Hp} {Q : VK} (hm : fn.modes = [.val, .val]) (ha : ∀ ds r, fn.run ds = some r → ∃ d ts, ds = [d, .tup ts]) (h : SpF κ K fn [x, y] H Q) : ∃ b xs, y = .ref b ∧ SqT K H b xs := by
  obtain ⟨F, ds, ρ0, w, outs, a0, rel, run, _⟩ := h
  obtain ⟨d, ts, rfl⟩ := ha _ _ run
  rw [hm] at a0
  obtain rfl : [some (W.val d), some (W.val (.tup ts))] = ρ0 := Option.some.inj a0
  obtain ⟨v, hv, r⟩ := rel.slot 1 (.val (.tup ts)) rfl
  obtain rfl : y = v := Option.some.inj (Option.some.inj hv)
  obtain ⟨b, vs, e, sq, _⟩ := repQ_tup (κ := κ) (K := K) rel.le r
  exact ⟨b, vs, e, sq⟩
theorem s_add (G : Good κ Γ nm gl L N X sc fp) {t : Bool} {f : Nat} {c : Str} {e e1 : E} {y z : Expr} {pos : Pos} (hk : nm.kd f = .opadd c) (h1 : ∀ ρ, evEs Γ gl [e1] ρ = bnd2 (evE Γ gl e1 ρ) fun p ρ1 => bnd2 (evEs Γ gl [] ρ1) fun ps ρ2 => some (p :: ps, ρ2))
    (he : PE X y (TEv κ Γ gl X.K e)) (hi : PE X z (TEv κ Γ gl X.K e1)) : SndE κ Γ gl X t (.callm f e [e1]) (.BinOp y .Add z pos) := by
  cases hf : Γ f with
  | none => exact callm_none hf rfl
  | some fn =>
    have k := G.tab.fns f fn hf
    rw [hk] at k
    obtain ⟨C, g, hC, ao, mf, hm, ht, F⟩ := k
    refine snd_plain (PE.imp (pe_addG he hi ao F G.room0 G.gd) fun σ H Q q => ?_) rfl
    refine callm_run hf mf.val mf.len q fun F1 H1 x d le rq ⟨ds, r, hr⟩ k => ?_
    obtain ⟨fs, rfl⟩ := mf.recv _ _ _ hr
    have rq := insQ rq
    obtain ⟨a, C', dx, vs, rfl, hC', hF, _⟩ := rq.insE
    rw [hC] at hC'
    cases hC'
    obtain ⟨F2, ρ, p, ρ', rel, ev, kk⟩ := tav_one h1 (k rq)
    refine ⟨F2, ρ, p, ρ', rel, ev, fun F' H' v s r => ?_⟩
    obtain ⟨b, xs, eb, hb⟩ := SpF.tup hm ht (kk F' H' v s r).1
    exact ⟨a, dx, _, b, xs, rfl, (kk F' H' v s r).2.1 a _ hF, eb, hb, (kk F' H' v s r).1⟩
end
end DT

end
section
/-! DT: isinstance, dicts, sets, letters. -/
namespace DT
open PySem PySem.Spec PyProof.Rows L2

/-! ### isinstance -/
section
variable {κ : Cs} {K : PySem.W.Frag} {F H : Hp}
theorem ty_ok (le : ∀ a o, F a = some o → H a = some o) {d : D} {v : V} {t : Bool × Bool × Bool × Bool} (h : RepQ κ K F H d v) (e : tyD d = some t) :
    ∃ T : String, TyX K H v (.type T) ∧ kitB T "int" = some t.1 ∧ kitB T "bool" = some t.2.1 ∧ kitB T "str" = some t.2.2.1 ∧ kitB T "tuple" = some t.2.2.2 := by
  cases d with
  | non =>
    cases e
    have h : Rep κ F .non v := h
    unfold Rep at h
    subst h
    exact ⟨"NoneType", .base .non, by decide +kernel, by decide +kernel, by decide +kernel, by decide +kernel⟩
  | bl b =>
    cases e
    rw [repQ_bl h]
    exact ⟨"bool", .base (.bl b), by decide +kernel, by decide +kernel, by decide +kernel, by decide +kernel⟩
  | int i =>
    cases e
    rw [repQ_int h]
    exact ⟨"int", .base (.int i), by decide +kernel, by decide +kernel, by decide +kernel, by decide +kernel⟩
  | str x =>
    cases e
    rw [repQ_str h]
    exact ⟨"str", .base (.str x), by decide +kernel, by decide +kernel, by decide +kernel, by decide +kernel⟩
  | tup ds =>
    cases e
    have h : Rep κ F (.tup ds) v := h
    obtain ⟨a, o, vs, rfl, _, hF, _⟩ := h.tupE
    exact ⟨"tuple", .fTuple (le a _ hF), by decide +kernel, by decide +kernel, by decide +kernel, by decide +kernel⟩
  | _ => cases e
end
section
variable {κ : Cs} {Γ : Nat → Option Fn} {nm : Nm} {gl : Str → Option D} {L : Nat} {N : List Str} {X : Cx} {sc : Scope} {fp : Str → Bool}
/-- an argument, then a constant one -/
theorem bi_run2 {b : Bi} {c : V} {r : List V → Hp → VK → Prop} {σ : L2.St} {H : Hp} {Q : VK} {e1 : E} (h1 : ∀ ρ, evEs Γ gl [e1] ρ = bnd2 (evE Γ gl e1 ρ) fun p ρ1 => bnd2 (evEs Γ gl [] ρ1) fun ps ρ2 => some (p :: ps, ρ2))
    (hr : ∀ F ρ F2 ρ2 H2 d v w, Step κ X.K F ρ σ H F2 ρ2 σ H2 → biRun b [d] = some w → RepQ κ X.K F2 H2 d v → Yld κ X.K F ρ σ H ρ2 (.tmp w) Q → r [v, c] H2 Q) (q : TEv κ Γ gl X.K (.bi b [e1]) σ H Q) : tCB r (tCons (TEv κ Γ gl X.K e1) (tCons (tC c) tNil)) σ H Q := by
  obtain ⟨F, ρ, p, ρ', rel, e, Y⟩ := q
  unfold evE at e
  obtain ⟨ps, ρ1, g1, e⟩ := bnd2_of e
  rw [h1] at g1
  obtain ⟨p1, ρ2, g1, g2⟩ := bnd2_of g1
  unfold evEs at g2
  cases g2
  obtain ⟨ds, g3, e⟩ := bnd1_of e
  obtain ⟨w, g4, e⟩ := bnd1_of e
  cases e
  unfold getQs at g3
  obtain ⟨d, g5, g3⟩ := bnd1_of g3
  unfold getQs at g3
  cases g3
  exact one (R := fun v H2 => r [v, c] H2 Q) rel g1 fun F1 H1 u s1 r1 => hr F ρ F1 _ H1 d u w s1 g4 (getQ_rep s1.rel r1 g5) Y
theorem s_isT (G : Good κ Γ nm gl L N X sc fp) {t : Bool} {T : String} {Ts : Str} {b : Bi} {sel : Bool × Bool × Bool × Bool → Bool} {e1 : E} {y : Expr} {p p2 pos : Pos} (h1 : ∀ ρ, evEs Γ gl [e1] ρ = bnd2 (evE Γ gl e1 ρ) fun p ρ1 => bnd2 (evEs Γ gl [] ρ1) fun ps ρ2 => some (p :: ps, ρ2))
    (hb : ∀ d w, biRun b [d] = some w → ∃ t, tyD d = some t ∧ w = .val (.bl (sel t))) (hsel : ∀ (F H : Hp) (d : D) (v : V) t, (∀ a o, F a = some o → H a = some o) → RepQ κ X.K F H d v → tyD d = some t → ∃ T', TyX X.K H v (.type T') ∧ kitB T' T = some (sel t))
    (hg : isGl sc "isinstance" = true) (hg2 : isGl sc Ts = true) (hm : X.mg Ts = none) (hv : bootBuiltins Ts = some (.type T)) (hn : Ts ≠ "__name__") (hd : (Ts == ("__debug__" : Str)) = false) (he : PE X y (TEv κ Γ gl X.K e1)) (hy : notStar y = true) :
    SndE κ Γ gl X t (.bi b [e1]) (.Call (.Name "isinstance" p) [y, .Name Ts p2] [] pos) := by
  have pa : PA X [y, .Name Ts p2] (tCons (TEv κ Γ gl X.K e1) (tCons (tC (.ty T)) tNil)) := pa_cons he (pa_cons (pe_bltn (G.gl' hg2) hm hv (v := .ty T) rfl hn hd) pa_nil rfl) (star_no hy _ X.env)
  refine snd_plain (PE.imp (pe_callB call_isi (G.gl' hg) (G.blt (by decide)) PyProof.Rows.boot_isinstance pa (by decide) (by decide) (star_no hy _ X.env) rfl) fun σ H Q q => ?_) rfl
  refine bi_run2 h1 (fun F ρ F2 ρ2 H2 d v w s e h Y => ?_) q
  obtain ⟨tt, e1, rfl⟩ := hb d w e
  obtain ⟨T', ty, k⟩ := hsel F2 H2 d v tt s.rel.le h e1
  exact ⟨v, .ty T, .type T', .type T, _, rfl, .ty T, ty, kit_ty k, yld_val s Y (rep_bl _)⟩
theorem s_isIns (G : Good κ Γ nm gl L N X sc fp) {t : Bool} {c : Str} {e1 : E} {y : Expr} {p p2 pos : Pos} (h1 : ∀ ρ, evEs Γ gl [e1] ρ = bnd2 (evE Γ gl e1 ρ) fun p ρ1 => bnd2 (evEs Γ gl [] ρ1) fun ps ρ2 => some (p :: ps, ρ2)) (hi : nm.ic c = true)
    (hg : isGl sc "isinstance" = true) (hg2 : isGl sc c = true) (ho : okName c = true) (he : PE X y (TEv κ Γ gl X.K e1)) (hy : notStar y = true) :
    SndE κ Γ gl X t (.bi (.isIns c) [e1]) (.Call (.Name "isinstance" p) [y, .Name c p2] [] pos) := by
  obtain ⟨C, hC, hm, ic⟩ := G.tab.ics c hi
  have pa : PA X [y, .Name c p2] (tCons (TEv κ Γ gl X.K e1) (tCons (tC (.ref C)) tNil)) := pa_cons he (pa_cons (pe_glob (G.gl' hg2) hm (v := .ref C) rfl (okName_1 ho)) pa_nil rfl) (star_no hy _ X.env)
  refine snd_plain (PE.imp (pe_callB (C8.call_isC ic) (G.gl' hg) (G.blt (by decide)) PyProof.Rows.boot_isinstance pa (by decide) (by decide) (star_no hy _ X.env) rfl) fun σ H Q q => ?_) rfl
  refine bi_run2 h1 (fun F ρ F2 ρ2 H2 d v w s e h Y => ?_) q
  have e : biIsIns c [d] = some w := e
  unfold biIsIns at e
  split at e
  · rename_i c' fs ed
    cases ed
    obtain ⟨ec, e⟩ := req_of e
    cases e
    have ec := of_decide_eq_true ec
    subst ec
    obtain ⟨a, C', dx, vs, rfl, hC', hF, _⟩ := (insQ h).insE
    rw [hC] at hC'
    cases hC'
    exact ⟨a, dx, _, rfl, s.rel.le a _ hF, yld_val s Y (rep_bl _)⟩
  · cases e

/-! ### a written dict read with .get -/
def kgV (o : Option Int) (v : V) : V := match o with
  | some i => .int i
  | none => v
theorem pe_kget {n : Str} {a : Addr} {es0 : Array DictEntry} {n0 : Nat} {p apos pos : Pos} {y z : Expr} {t1 t2 : TE} (hg : Gl X n) (hm : X.mg n = some (.ref a)) (hd : (n == ("__debug__" : Str)) = false) (hl0 : X.K.lookup a = some ⟨.type "dict", none, .dict es0 n0, #[]⟩) (low : (a == sysModules) = false)
    (h1 : PE X y t1) (h2 : PE X z t2) (hy : notStar y = true) (hz : notStar z = true) (hl : (apos.endLine == pos.line) = true) :
    PE X (.Call (.Attribute (.Name n p) "get" apos) [y, z] [] pos) (fun σ H Q => t1 σ H fun v1 H1 => t2 σ H1 fun v2 H2 => ∃ x o, v1 = .str x ∧ KGet X.K X.w a x o ∧ Q (kgV o v2) H2) := by
  have s1 : starEach [y, z] X.env = [(false, eval y X.env), (false, eval z X.env)] := by rw [star_no hy, star_no hz]; rfl
  refine ⟨fun pins s σ H Q I h => ?_⟩
  refine wpAny_Call_method (base_no rfl _ _ _) (by rw [s1]; rfl) hl PySem.F.plainAttrs_dict PySem.F.slot_dict_get PySem.F.type_dict_get (ld_glob I hg hm ?_ hd)
  have hget := I.kIn a _ hl0
  refine ⟨⟨_, hget, rfl⟩, fun b e => by cases e; exact ⟨_, hget, rfl⟩, ?_⟩
  rw [show backTo pos (starEach [y, z] X.env) = [(false, eval y X.env), (false, eval z X.env)] by rw [s1]; rfl]
  refine Calls.callWith_builtin rfl (Calls.evalArgs_plain (Calls.spliced_cons (thn (h1.run pins s σ H _ I h) fun iv s2 ⟨v1, H2, I2, ry, q2⟩ =>
    Calls.spliced_cons (thn (h2.run pins s2 σ H2 _ I2 q2) fun fv s3 ⟨v2, H3, I3, rz, x, o, ex, kd, q3⟩ => Calls.spliced_nil ?_))))
  subst ex
  obtain ⟨tk, rfl⟩ := (show ∃ t, iv = Value.str x t from ry)
  obtain ⟨es, n', u, hl', hk', hn', ru⟩ := kd
  have hmap := PySem.W.mapOf_K (prog := X.prog) (w := X.w) I3.kIn hl' hk'
  refine call_meetsIn PySem.F.slot_dict_get hmap.typeIs PySem.F.entry_dict_get (PySem.F.args_dict_get_3 _ _ _) (meets_dict_get_default (strKind X.prog X.w) a (strKind_is X.prog X.w x tk) low fv) ⟨_, hmap, ?_⟩
  rw [PySem.W.find_K hl' hn']
  cases o with
  | some i =>
    obtain ⟨v, rfl, rv⟩ := ru
    exact ⟨.int i, H3, I3.tok _, rv, q3⟩
  | none =>
    obtain rfl := ru
    exact ⟨v2, H3, I3.tok _, rz, q3⟩
theorem s_kget (G : Good κ Γ nm gl L N X sc fp) {t : Bool} {n : Str} {tb : List (Str × Int)} {e1 e2 : E} {y z : Expr} {p apos pos : Pos} (hk : nm.kt n = tb) (hne : tb ≠ []) (hg : isGl sc n = true) (ho : okName n = true)
    (h1 : ∀ ρ, evEs Γ gl [e1, e2] ρ = bnd2 (evE Γ gl e1 ρ) fun p ρ1 => bnd2 (evE Γ gl e2 ρ1) fun q ρ2 => some ([p, q], ρ2))
    (a1 : PE X y (TEv κ Γ gl X.K e1)) (a2 : PE X z (TEv κ Γ gl X.K e2)) (hy : notStar y = true) (hz : notStar z = true) (hl : (apos.endLine == pos.line) = true) :
    SndE κ Γ gl X t (.bi (.kget n tb) [e1, e2]) (.Call (.Attribute (.Name n p) "get" apos) [y, z] [] pos) := by
  subst hk
  obtain ⟨a, hm, low, hkd⟩ := G.tab.kts n hne
  obtain ⟨es0, n0, hl0⟩ : ∃ es0 n0, X.K.lookup a = some ⟨.type "dict", none, .dict es0 n0, #[]⟩ := by
    obtain ⟨es, n', u, hl', _⟩ := hkd Str.empty
    exact ⟨es, n', hl'⟩
  refine snd_plain (PE.imp (pe_kget (G.gl' hg) hm (okName_1 ho) hl0 low a1 a2 hy hz hl) fun σ H Q q => ?_) rfl
  obtain ⟨F, ρ, p, ρ', rel, e, Y⟩ := q
  unfold evE at e
  obtain ⟨ps, ρ1, g1, e⟩ := bnd2_of e
  rw [h1] at g1
  obtain ⟨p1, ρ2, k1, g2⟩ := bnd2_of g1
  obtain ⟨p2, ρ3, k2, g3⟩ := bnd2_of g2
  cases g3
  obtain ⟨ds, g4, e⟩ := bnd1_of e
  obtain ⟨w, g5, e⟩ := bnd1_of e
  cases e
  refine two (R := fun v1 v2 H2 => ∃ x o, v1 = .str x ∧ KGet X.K X.w a x o ∧ Q (kgV o v2) H2) rel k1 k2 fun F2 H2 u v s2 r1 r2 => ?_
  have z := getQs_rep (K := X.K) s2.rel (.cons r1.weak (.cons r2.weak .nil)) g4
  have g5 : biKget (nm.kt n) ds = some w := g5
  unfold biKget at g5
  split at g5
  · rename_i x e0 _
    cases g5
    obtain ⟨v1, v2, ev, z1, z2⟩ := repQL2 z
    cases ev
    have z2 := repQ_int z2
    subst z2
    refine ⟨_, _, repQ_str z1, hkd _, ?_⟩
    cases lk : (nm.kt n).lookup x with
    | some i => rw [lk] at Y; exact yld_val s2 Y (rep_int _)
    | none => rw [lk] at Y; exact yld_val s2 Y (rep_int _)
  · cases g5

/-! ### list(text) -/
theorem call_listS {X : Cx} (hc : X.calm = true) : CallR X (.type "list") (fun xs H Q => ∃ z : Str, xs = [.str z] ∧ z.length ≤ sizeLine ∧ ∀ p, H p = none → Q (.ref p) (upd H p (.lst (z.cps.toList.map fun c => V.str ⟨#[c]⟩)))) := by
  intro pins s σ H xs us Q I r h
  obtain ⟨z, rfl, hz, q⟩ := h
  obtain ⟨u, rfl, tk, rfl⟩ := vals1 r
  refine call_list_str (I.ok.hd hc) z tk (fun h' tk' acc c hk hS hacc => ?_) hz
  have rv : Vals (z.cps.toList.map fun c => V.str ⟨#[c]⟩) acc.toList := by
    have hlen : z.cps.toList.length = acc.toList.length := by rw [Array.length_toList, Array.length_toList]; exact hacc.1.symm
    refine vals_of_at (by rw [List.length_map]; exact hlen) fun j x u hx hu => ?_
    rw [Array.getElem?_toList] at hu
    have ha := hacc.2 j u hu
    rw [List.getElem?_map] at hx
    first
      | (obtain ⟨c, t, hc1, hc2⟩ := ha
         rw [Array.getElem?_toList, hc1] at hx
         cases hx
         exact ⟨t, hc2⟩)
      | (obtain ⟨t, c, hc1, hc2⟩ := ha
         rw [Array.getElem?_toList, hc1] at hx
         cases hx
         exact ⟨t, hc2⟩)
  refine ⟨.ref s.heap.objs.size, _, I.laid (t' := tk') hk (Nat.le_refl _) (show ObjOk X.prog X.w _ h' _ (.lst _) from ⟨?_, acc.toList, c, rv, ?_⟩), rfl, q _ (I.hok.fresh (Nat.le_refl _))⟩
  · rw [List.length_map, Array.length_toList]; exact hz
  · rw [Array.toArray_toList]; exact hS
theorem rep_signs {F : Hp} (x : Str) : RepL κ F (signs x) (x.cps.toList.map fun c => V.str ⟨#[c]⟩) := by
  unfold signs
  generalize x.cps.toList = l
  induction l with
  | nil => exact repL_nil.mpr rfl
  | cons c l ih => exact repL_cc.mpr ⟨rep_str _, ih⟩
theorem s_signs (G : Good κ Γ nm gl L N X sc fp) {t : Bool} {e1 : E} {y : Expr} {p pos : Pos} (hg : isGl sc "list" = true) (he : PE X y (TEv κ Γ gl X.K e1)) (hy : notStar y = true) : SndE κ Γ gl X t (.signs e1) (.Call (.Name "list" p) [y] [] pos) := by
  have hs := star_no hy [] X.env
  refine snd_plain (PE.imp (pe_callTy (call_listS G.calm) (G.gl' hg) (G.blt (by decide)) PyProof.Rows.boot_list (pa_cons he pa_nil hs) (by decide) (by decide) hs rfl) fun σ H Q q => ?_) rfl
  obtain ⟨F, ρ, p, ρ', rel, e, Y⟩ := q
  unfold evE at e
  obtain ⟨p1, ρ1, h1, e⟩ := bnd2_of e
  obtain ⟨d, g1, e⟩ := bnd1_of e
  obtain ⟨x, g2, e⟩ := bnd1_of e
  obtain ⟨c, e⟩ := req_of e
  cases e
  rw [strD_of g2] at g1
  refine one (R := fun v H1 => ∃ z : Str, [v] = [V.str z] ∧ z.length ≤ sizeLine ∧ ∀ p, H1 p = none → Q (.ref p) (upd H1 p (.lst (z.cps.toList.map fun c => V.str ⟨#[c]⟩)))) rel h1 fun F1 H1 u s1 r1 => ?_
  exact ⟨x, by rw [repQ_str (getQ_rep (K := X.K) s1.rel r1 g1)], big_le (of_decide_eq_true c), yld_own s1 Y (rep_signs x)⟩
end
end DT

end
section
/-! DT: len(set(tuple)), dict(pairs), d.get. -/
namespace DT
open PySem PySem.Spec PyProof.Rows L2

/-! ### len(set(t)) -/
theorem dedup_mem {k : Int} : ∀ {ns : List Int}, k ∈ dedup ns ↔ k ∈ ns
  | [] => by unfold dedup; exact Iff.rfl
  | i :: r => by
    unfold dedup
    rw [List.mem_cons, List.mem_cons, List.mem_filter, dedup_mem]
    constructor
    · rintro (h | h)
      · exact .inl h
      · exact .inr h.1
    · rintro (h | h)
      · exact .inl h
      · by_cases e : k = i
        · exact .inl e
        · exact .inr ⟨h, by simpa using e⟩
theorem dedup_nodup : ∀ (ns : List Int), (dedup ns).Nodup
  | [] => by unfold dedup; exact List.nodup_nil
  | i :: r => by
    unfold dedup
    rw [List.nodup_cons]
    refine ⟨fun h => ?_, (dedup_nodup r).filter _⟩
    rw [List.mem_filter] at h
    simpa using h.2
theorem card_eq {l ns : List Int} (h : l.Nodup) (m : ∀ k, k ∈ l ↔ k ∈ ns) : l.length = (dedup ns).length :=
  ((List.perm_ext_iff_of_nodup h (dedup_nodup ns)).mpr fun k => (m k).trans dedup_mem.symm).length_eq
section
variable {X : Cx}
def tLenSetT (K : PySem.W.Frag) (ta : TE) : TE := fun σ H Q => ta σ H fun x H1 => ∃ (l : Addr) (ns : List Int), x = .ref l ∧ SqT K H1 l (ns.map V.int) ∧ ns.length ≤ 1000 ∧ Q (.int ((dedup ns).length : Nat)) H1
theorem pe_lenSetT {a : Expr} {ta : TE} {p p2 q pos : Pos} (hg : Gl X "len") (hm : X.mg "len" = none) (hg2 : Gl X "set") (hm2 : X.mg "set" = none) (ha : PE X a ta) (hc : X.calm = true)
    (na : starEach [a] X.env = (false, eval a X.env) :: starEach [] X.env) : PE X (.Call (.Name "len" p) [.Call (.Name "set" p2) [a] [] q] [] pos) (tLenSetT X.K ta) := by
  refine ⟨fun pins s σ H Q I h => ?_⟩
  refine Call_ (ld_blt I hg hm boot_len ?_)
  refine PyProof.Rows.callWith_builtin1 (PyProof.Rows.args_cons ?_ rfl) rfl rfl
  refine Call_ (ld_blt I hg2 hm2 PyProof.Rows.boot_set ?_)
  refine PyProof.Rows.callWith_type1 (PyProof.Rows.args_cons (thn (ha.run pins s σ H _ I h) fun v s1 ⟨x, H1, I1, r1, q1⟩ => PyProof.Rows.args_nil ?_) na) na rfl
  obtain ⟨l, ns, rfl, hq, hl, q1⟩ := q1
  cases r1
  obtain ⟨its, r, pl, hz⟩ := I1.tuple hq
  have hi : IntsAre its.toArray.toList ns := ints_of_vals r
  refine call_set_tupI ns (I1.ok.hd hc) (show s1.heap.IsTuple l its.toArray from pl) hi (by unfold scanBound; omega) fun h' tk c R1 hcn k => ?_
  refine PyProof.Rows.args_nil ?_
  obtain ⟨o, es, ep, t, ho, hex, hd, g, nd, hm3, hb, hf, hn, hr, hl2⟩ := R1
  have hcard : es.size = (dedup ns).length := by
    have z := card_eq (ns := ns) nd fun j => by rw [← hm3 j, decide_eq_true_eq]
    rw [List.length_map, Array.length_toList] at z
    exact z
  have I2 : Inv X pins σ H1 { s1 with heap := h', toks := tk } := I1.kept k
  have hbig : (dedup ns).length ≤ ns.length := by omega
  exact call_len_set ho hex hd hf (by rw [hcard]; omega) ⟨.int (dedup ns).length, H1, I2.tok _, ⟨_, by rw [hcard]⟩, q1⟩
end
section
variable {κ : Cs} {Γ : Nat → Option Fn} {nm : Nm} {gl : Str → Option D} {L : Nat} {N : List Str} {X : Cx} {sc : Scope} {fp : Str → Bool}
theorem s_lenSet (G : Good κ Γ nm gl L N X sc fp) {t : Bool} {e1 : E} {y : Expr} {p p2 pos pos2 : Pos} (h1 : ∀ ρ, evEs Γ gl [e1] ρ = bnd2 (evE Γ gl e1 ρ) fun p ρ1 => bnd2 (evEs Γ gl [] ρ1) fun ps ρ2 => some (p :: ps, ρ2))
    (hg : isGl sc "len" = true) (hg2 : isGl sc "set" = true) (he : PE X y (TEv κ Γ gl X.K e1)) (hy : notStar y = true) : SndE κ Γ gl X t (.bi .lenSet [e1]) (.Call (.Name "len" p) [.Call (.Name "set" p2) [y] [] pos2] [] pos) := by
  refine snd_plain (PE.imp (pe_lenSetT (G.gl' hg) (G.blt (by decide)) (G.gl' hg2) (G.blt (by decide)) he G.calm (star_no hy [] X.env)) fun σ H Q q => ?_) rfl
  obtain ⟨F, ρ, p, ρ', rel, e, Y⟩ := q
  unfold evE at e
  obtain ⟨ps, ρ1, g1, e⟩ := bnd2_of e
  rw [h1] at g1
  obtain ⟨p1, ρ2, g1, g2⟩ := bnd2_of g1
  unfold evEs at g2
  cases g2
  obtain ⟨ds, g3, e⟩ := bnd1_of e
  obtain ⟨w, g4, e⟩ := bnd1_of e
  cases e
  unfold getQs at g3
  obtain ⟨d, g5, g3⟩ := bnd1_of g3
  unfold getQs at g3
  cases g3
  have g4 : biLenSet [d] = some w := g4
  unfold biLenSet at g4
  split at g4
  · rename_i ds ed
    cases ed
    obtain ⟨ns, k1, g4⟩ := bnd1_of g4
    obtain ⟨c, g4⟩ := req_of g4
    cases g4
    refine one (R := fun x H1 => ∃ (l : Addr) (ns : List Int), x = .ref l ∧ SqT X.K H1 l (ns.map V.int) ∧ ns.length ≤ 1000 ∧ Q (.int ((dedup ns).length : Nat)) H1) rel g1 fun F1 H1 u s1 r1 => ?_
    have z : Rep κ F1 (.tup ds) u := getQ_rep (K := X.K) s1.rel r1 g5
    obtain ⟨a, o, vs, rfl, hd, hF, hr⟩ := z.tupE
    have ev := repL_ints k1 hr
    subst ev
    exact ⟨a, ns, rfl, .inl (.inr ⟨o, s1.rel.le a _ hF⟩), by have := of_decide_eq_true c; omega, yld_val s1 Y (rep_int _)⟩
  · cases g4
end

/-! ### dict(t) -/
/-- the items are pairs -/
def PrV (H : Hp) : List V → List (Key × V) → Prop
  | [], [] => True
  | u :: us, kv :: kvs => (∃ b o, u = .ref b ∧ H b = some (tf o [kV kv.1, kv.2])) ∧ PrV H us kvs
  | _, _ => False
section
variable {X : Cx}
theorem pairs_of {H : Hp} {P : Program} {w : World} {h : Heap} (ok : HOk P w H h) : ∀ {us : List V} {kvs : List (Key × V)} {its : List Value}, PrV H us kvs → Vals us its →
    ∃ (ps : List (Value × Value)) (vs : List (Key × Value)) (Ts : Nat → Addr), ps.length = its.length ∧ KV kvs vs ∧ ∀ j k v, ps[j]? = some (k, v) → its[j]? = some (.ref (Ts j)) ∧ PairAt h (Ts j) k v ∧ ∃ kk, vs[j]? = some (kk, v) ∧ (mixKind P w).is kk k = true
  | [], [], _, _, .nil => ⟨[], [], fun _ => 0, rfl, .nil, fun j k v e => by simp at e⟩
  | u :: us, (kk, kv) :: kvs, _, ⟨⟨b, o, eu, eH⟩, hp⟩, .cons (b := x) (l₂ := its) r rs => by
    obtain ⟨ps, vs, Ts, h1, h2, h3⟩ := pairs_of ok hp rs
    subst eu
    obtain rfl : x = Value.ref b := r
    have z : ObjOk P w H h b (tf o [kV kk, kv]) := ok b _ eH
    obtain ⟨e1, _, its2, r2, o2, e2, c2, n2, d2⟩ := z
    cases r2 with
    | @cons _ x1 _ _ r1 rr =>
      cases rr with
      | @cons _ x2 _ _ r2 rr =>
        cases rr
        refine ⟨(x1, x2) :: ps, (kk, x2) :: vs, fun j => match j with | 0 => b | j + 1 => Ts j, by simp [h1], .cons ⟨rfl, r2⟩ h2, fun j k v e => ?_⟩
        cases j with
        | zero =>
          cases e
          exact ⟨rfl, .inl ⟨o2, e2, c2, n2, d2⟩, kk, rfl, kV_is r1⟩
        | succ j =>
          obtain ⟨q1, q2, kk', q3, q4⟩ := h3 j k v (by simpa using e)
          exact ⟨by simpa using q1, q2, kk', by simpa using q3, q4⟩
  | [], _ :: _, _, hp, _ => hp.elim
  | _ :: _, [], _, hp, _ => hp.elim
theorem call_dictT (hc : X.calm = true) : CallR X (.type "dict") (fun xs H Q => ∃ (p : Addr) (o : Obj) (us : List V) (kvs : List (Key × V)), xs = [.ref p] ∧ o.dict = none ∧ H p = some (tf o us) ∧ PrV H us kvs ∧ (kvs.map (·.1)).Nodup ∧ kvs.length ≤ 1000 ∧ ∀ q, H q = none → Q (.ref q) (upd H q (.dK kvs))) := by
  intro pins s σ H xs us Q I r h
  obtain ⟨p, o, vs, kvs, rfl, ho, hH, hp, hn, hl, q⟩ := h
  obtain ⟨u, rfl, rx⟩ := vals1 r
  cases rx
  have z : ObjOk X.prog X.w H s.heap p (tf o vs) := I.hok p _ hH
  obtain ⟨e1, hz, its, r2, o2, e2, c2, n2, d2⟩ := z
  rw [e1] at e2
  cases e2
  obtain ⟨ps, kv, Ts, h1, h2, h3⟩ := pairs_of I.hok hp r2
  have hkl := h2.length
  have hlen : kvs.length = vs.length := by
    have key : ∀ {us : List V} {kvs : List (Key × V)}, PrV H us kvs → kvs.length = us.length := by
      intro us
      induction us with
      | nil => intro kvs h; cases kvs with
        | nil => rfl
        | cons _ _ => exact h.elim
      | cons u us ih => intro kvs h; cases kvs with
        | nil => exact h.elim
        | cons _ _ => simp [ih h.2]
    exact key hp
  have hil := r2.length
  have hsl : ps.length ≤ sizeLine := by rw [sizeLine_eq]; omega
  refine call_dict_pairs (knd := mixKind X.prog X.w) (kvs := kv) (PairArg.tuple p its.toArray Ts ps) (I.ok.hd hc) ⟨⟨o, n2, e1, c2, ho, d2⟩, by simp [h1], fun j k v e => ?_⟩ ⟨by omega, fun i key v e => ?_⟩ hsl fun h' tk hd' hk => ?_
  · obtain ⟨q1, q2, _⟩ := h3 j k v e
    exact ⟨by simpa using q1, q2⟩
  · obtain ⟨_, _, kk, q3, q4⟩ := h3 i key v e
    exact ⟨kk, q3, q4⟩
  · rw [merged_nil_of_nodup kv (by rw [← h2.keys]; exact hn)] at hd'
    have hbig := I.big
    exact ⟨.ref s.heap.objs.size, _, I.laid (t' := tk) (fun b u e => hk b u (by simp) e) (Nat.le_refl _) (dk_new (by rw [sizeLine_eq]; omega) (by simpa using Nat.ne_of_gt hbig) h2 hd'), rfl, q _ (I.hok.fresh (Nat.le_refl _))⟩
end
section
variable {κ : Cs} {Γ : Nat → Option Fn} {nm : Nm} {gl : Str → Option D} {L : Nat} {N : List Str} {X : Cx} {sc : Scope} {fp : Str → Bool}
theorem pairs_rep {F H : Hp} (le : ∀ a o, F a = some o → H a = some o) : ∀ {ps : List D} {ks : List Int} {ds : List D} {us : List V}, pairsD ps = some (ks, ds) → RepL κ F ps us → ∃ kvs : List (Key × V), PrV H us kvs ∧ kvs.map (·.1) = ks.map Sum.inl ∧ RepL κ F ds (kvs.map (·.2))
  | [], _, _, us, e, r => by
    unfold pairsD at e
    cases e
    rw [repL_nil.mp r]
    exact ⟨[], trivial, rfl, repL_nil.mpr rfl⟩
  | d :: ps, ks, ds, us, e, r => by
    cases us with
    | nil => have := r.length; simp at this
    | cons u us =>
      obtain ⟨h1, h2⟩ := repL_cc.mp r
      unfold pairsD at e
      split at e
      · cases ‹_ = []›
      · rename_i k d' r' ed
        cases ed
        obtain ⟨ks', ds', e1, e2⟩ := bnd2_of e
        cases e2
        obtain ⟨kvs, q1, q2, q3⟩ := pairs_rep le e1 h2
        obtain ⟨a, o, vs, rfl, _, hF, hr⟩ := h1.tupE
        match vs, hr with
        | [], hr => have := hr.length; simp at this
        | [_], hr => have := hr.length; simp at this
        | [x, y], hr =>
          obtain ⟨z1, hr⟩ := repL_cc.mp hr
          obtain ⟨z2, _⟩ := repL_cc.mp hr
          unfold Rep at z1
          subst z1
          exact ⟨(Sum.inl k, y) :: kvs, ⟨⟨a, o, rfl, le a _ hF⟩, q1⟩, by simp [q2], repL_cc.mpr ⟨z2, q3⟩⟩
        | _ :: _ :: _ :: _, hr => have := hr.length; simp at this
      · cases e
theorem nodupI_of : ∀ {ks : List Int}, nodupI ks = true → ks.Nodup
  | [], _ => List.nodup_nil
  | k :: ks, h => by
    unfold nodupI at h
    simp only [Bool.and_eq_true, Bool.not_eq_true'] at h
    rw [List.nodup_cons]
    exact ⟨fun z => by rw [List.contains_iff_mem.mpr z] at h; exact absurd h.1 (by simp), nodupI_of h.2⟩
theorem s_dictOf (G : Good κ Γ nm gl L N X sc fp) {t : Bool} {es : List E} {y : Expr} {ys : List Expr} {p pos : Pos} (hg : isGl sc "dict" = true) (hs : (y :: ys).all notStar = true) (ha : PA X (y :: ys) (TAv κ Γ gl X.K es)) :
    SndE κ Γ gl X t (.bi .dictOf es) (.Call (.Name "dict" p) (y :: ys) [] pos) := by
  rw [List.all_cons, Bool.and_eq_true] at hs
  have h1 := star_no hs.1 ys X.env
  have h2 := star_all hs.2 X.env pos
  refine snd_plain (PE.imp (pe_callTy (call_dictT G.calm) (G.gl' hg) (G.blt (by decide)) boot_dict ha (by decide) (by decide) h1 h2) fun σ H Q q => bi_run (fun F ρ F2 ρ2 H2 ds vs w s e h Y => ?_) q) rfl
  have e : biDict ds = some w := e
  unfold biDict at e
  split at e
  · rename_i ps _
    obtain ⟨ks, dd, e1, e⟩ := bnd2_of e
    obtain ⟨c, e⟩ := req_of e
    cases e
    simp only [Bool.and_eq_true, decide_eq_true_eq] at c
    obtain ⟨v, rfl, hv⟩ := repQL1 h
    have hv : Rep κ F2 (.tup ps) v := hv
    obtain ⟨a, o, us, rfl, ho, hF, hr⟩ := hv.tupE
    obtain ⟨kvs, q1, q2, q3⟩ := pairs_rep s.rel.le e1 hr
    have hlen : kvs.length = ks.length := by have := congrArg List.length q2; simpa using this
    refine ⟨a, o, us, kvs, rfl, ho, s.rel.le a _ hF, q1, ?_, by omega, fun b hb => ?_⟩
    · rw [q2]
      exact List.Pairwise.map _ (fun a b h z => h (Sum.inl.inj z)) (nodupI_of c.1)
    · refine Y (upd F2 b (.dK kvs)) _ _ (s.allocF hb) ?_
      show Rep κ _ _ _
      unfold Rep
      exact ⟨b, kvs, rfl, upd_same, q2, RepL.mono (s.exF hb) _ _ q3⟩
  · cases e

/-! ### d.get(k, e) -/
theorem dicAt_rep {F : Hp} {i : Int} : ∀ {ks : List Int} {ds : List D} {kvs : List (Key × V)} {e : D} {x : V}, kvs.map (·.1) = ks.map Sum.inl → RepL κ F ds (kvs.map (·.2)) → Rep κ F e x → Rep κ F ((dicAt ks ds i).getD e) ((valV kvs (Sum.inl i : Key)).getD x)
  | [], ds, kvs, e, x, h1, h2, he => by
    cases kvs with
    | nil => unfold dicAt; exact he
    | cons _ _ => simp at h1
  | k :: ks, ds, kvs, e, x, h1, h2, he => by
    cases kvs with
    | nil => simp at h1
    | cons kv kvs =>
      cases ds with
      | nil => have := h2.length; simp at this
      | cons d ds =>
        rw [List.map_cons, List.map_cons] at h1
        rw [List.map_cons] at h2
        obtain ⟨z1, z2⟩ := repL_cc.mp h2
        injection h1 with h3 h4
        unfold dicAt
        by_cases c : k = i
        · subst c
          rw [if_pos rfl]
          have : valV (kv :: kvs) (Sum.inl k : Key) = some kv.2 := valV_pos h3
          rw [this]
          exact z1
        · rw [if_neg c]
          have : valV (kv :: kvs) (Sum.inl i : Key) = valV kvs (Sum.inl i : Key) := valV_neg (fun z => c (Sum.inl.inj (h3.symm.trans z)))
          rw [this]
          exact dicAt_rep h4 z2 he
theorem s_get (G : Good κ Γ nm gl L N X sc fp) {t : Bool} {o e1 e2 : E} {x y z : Expr} {n : Str} {apos pos : Pos} (hn : n = "get")
    (h1 : ∀ ρ, evEs Γ gl [e1, e2] ρ = bnd2 (evE Γ gl e1 ρ) fun p ρ1 => bnd2 (evE Γ gl e2 ρ1) fun q ρ2 => some ([p, q], ρ2))
    (ho : PE X x (TEv κ Γ gl X.K o)) (a1 : PE X y (TEv κ Γ gl X.K e1)) (a2 : PE X z (TEv κ Γ gl X.K e2)) (hy : notStar y = true) (hz : notStar z = true) (hx : notCall x = true) (hl : (apos.endLine == pos.line) = true) :
    SndE κ Γ gl X t (.bm .get o [e1, e2]) (.Call (.Attribute x n apos) [y, z] [] pos) := by
  subst hn
  have st : starEach [y, z] X.env = [(false, eval y X.env), (false, eval z X.env)] := by rw [star_no hy, star_no hz]; rfl
  refine snd_plain (PE.imp (pe_dget2 (by have := G.room.un; omega) ho a1 a2 ⟨base_no hx _ _ _, by rw [st]; rfl, hl, by rw [st]; rfl⟩) fun σ H Q q => ?_) rfl
  obtain ⟨F, ρ, p, ρ', rel, e, Y⟩ := q
  unfold evE at e
  obtain ⟨p0, ρ0, g0, e⟩ := bnd2_of e
  obtain ⟨d, g1, e⟩ := bnd1_of e
  obtain ⟨ps, ρ1, g2, e⟩ := bnd2_of e
  obtain ⟨ds, g3, e⟩ := bnd1_of e
  obtain ⟨w, g4, e⟩ := bnd1_of e
  cases e
  rw [h1] at g2
  obtain ⟨p1, ρ2, k1, g2⟩ := bnd2_of g2
  obtain ⟨p2, ρ3, k2, g2⟩ := bnd2_of g2
  cases g2
  have g4 : bmGet d ds = some w := g4
  unfold bmGet at g4
  split at g4
  · rename_i ks dd k e' _ _ _
    obtain ⟨cp, g4⟩ := req_of g4
    cases g4
    refine one (R := fun x H1 => ∃ a, x = .ref a ∧ IsD H1 a ∧ TEv κ Γ gl X.K e1 σ H1 fun y H2 => TEv κ Γ gl X.K e2 σ H2 fun z H3 => ∃ o, DGet H3 a y o ∧ Q (o.getD z) H3) rel g0 fun F1 H1 u s1 r1 => ?_
    have zd : Rep κ F1 (.dic ks dd) u := getQ_rep (K := X.K) s1.rel r1 g1
    have zd' := zd
    unfold Rep at zd
    obtain ⟨a, kvs, rfl, hF, q2, q3⟩ := zd
    refine ⟨a, rfl, .inl ⟨kvs, .inl (s1.rel.le a _ hF)⟩, ?_⟩
    refine two (R := fun y z H3 => ∃ o, DGet H3 a y o ∧ Q (o.getD z) H3) s1.rel k1 k2 fun F3 H3 v1 v2 s3 r1 r2 => ?_
    have s := s1.trans s3
    have zz := getQs_rep (K := X.K) s3.rel (.cons r1.weak (.cons r2.weak .nil)) g3
    obtain ⟨w1, w2, ev, z1, z2⟩ := repQL2 zz
    cases ev
    rw [repQ_int z1]
    have hv : Rep κ F3 e' v2 := by cases e' <;> first | exact z2 | cases cp
    exact ⟨_, .k (k := Sum.inl k) (s.rel.le a _ (s3.ex a _ hF)), yld_val s Y (dicAt_rep q2 (RepL.mono s3.ex _ _ q3) hv)⟩
  · cases g4
end
end DT

end
section
/-! DT: min of a list of pairs (int, tuple of ints). -/
namespace DT
open PySem PySem.Spec PyProof.Rows L2 PySem.SeqAt
/-! ### the order of pairs -/
theorem range_all_eq (ns ms : List Int) : (((List.range (min ns.length ms.length)).all fun j => decide (ns.getD j 0 = ms.getD j 0)) && ns.length == ms.length) = decide (ns = ms) := by
  refine Bool.eq_iff_iff.mpr ?_
  rw [Bool.and_eq_true, List.all_eq_true, decide_eq_true_eq, beq_iff_eq]
  refine ⟨fun ⟨h1, h2⟩ => List.ext_getElem h2 fun i a b => ?_, fun e => by subst e; exact ⟨fun _ _ => by simp, rfl⟩⟩
  have z := h1 i (List.mem_range.mpr (by omega))
  rw [decide_eq_true_eq, List.getD_eq_getElem?_getD, List.getD_eq_getElem?_getD, List.getElem?_eq_getElem a, List.getElem?_eq_getElem b] at z
  exact z
theorem dec_beq (a b : Int) : decide (a = b) = (a == b) := by by_cases c : a = b <;> simp [c]
/-- a tuple of ints in the heap -/
def IsAt (h : Heap) (b : Addr) (ns : List Int) : Prop := ∃ its : List Value, h.IsTuple b its.toArray ∧ IntsAre its ns
/-- a pair in the heap -/
def PrAt (h : Heap) (v : Value) (k : Int × List Int) : Prop := ∃ a b t, v = .ref a ∧ h.IsTuple a #[.int k.1 t, .ref b] ∧ IsAt h b k.2
theorem IsTuple.grow {h h' : Heap} {a : Addr} {its : Array Value} (k : ∀ b o, h.get? b = some o → h'.get? b = some o) (x : h.IsTuple a its) : h'.IsTuple a its := let ⟨o, e, r⟩ := x; ⟨o, k _ _ e, r⟩
theorem PrAt.grow {h h' : Heap} {v : Value} {p : Int × List Int} (k : ∀ b o, h.get? b = some o → h'.get? b = some o) (x : PrAt h v p) : PrAt h' v p :=
  let ⟨a, b, t, e, h1, its, h2, h3⟩ := x; ⟨a, b, t, e, IsTuple.grow k h1, its, IsTuple.grow k h2, h3⟩
section
variable {A : Around} {s : Shared}
theorem eqAt_ints {a b : Addr} {ns ms : List Int} (ha : IsAt s.heap a ns) (hb : IsAt s.heap b ms) (hu : A.units < cLine) : EqAt A s (.ref a) (.ref b) (decide (ns = ms)) := by
  obtain ⟨its, t1, i1⟩ := ha
  obtain ⟨its2, t2, i2⟩ := hb
  by_cases q : a = b
  · subst q
    have e : its.toArray = its2.toArray := by
      obtain ⟨o, e1, _, n, e2⟩ := t1
      obtain ⟨o', e1', _, n', e2'⟩ := t2
      rw [e1] at e1'
      cases e1'
      rw [e2] at e2'
      cases e2'
      rfl
    have e' : its = its2 := by simpa using e
    subst e'
    have en : ns = ms := by
      clear t1 t2 e
      induction i1 generalizing ms with
      | nil => cases i2; rfl
      | cons n t hr ih => cases i2 with | cons m t' hr' => rw [ih hr']
    subst en
    rw [decide_eq_true rfl]
    exact .same _
  · have l1 : its.toArray.size = ns.length := by rw [List.size_toArray]; exact i1.length
    have l2 : its2.toArray.size = ms.length := by rw [List.size_toArray]; exact i2.length
    have R := RcAt.tuples (A := A) (e := fun j => decide (ns.getD j 0 = ms.getD j 0)) t1 t2 hu fun j h1 h2 => by
      obtain ⟨t, et⟩ := IntsAre.int_at i1 j its.toArray[j] (by simp at h1; simp [h1])
      obtain ⟨t', et'⟩ := IntsAre.int_at i2 j its2.toArray[j] (by simp at h2; simp [h2])
      rw [et, et', dec_beq]
      exact .int_int _ _ _ _
    rw [l1, l2, range_all_eq] at R
    exact .of_refs q R
theorem rc_ints {a b : Addr} {ns ms : List Int} (ha : IsAt s.heap a ns) (hb : IsAt s.heap b ms) (hu : A.units < cLine) : Ob.RcOp .Lt A s (.ref a) (.ref b) (HT.lexLt ns ms) := fun prog w E Q q => by
  obtain ⟨its, t1, i1⟩ := ha
  obtain ⟨its2, t2, i2⟩ := hb
  exact HT.lt_tupInts t1 t2 i1 i2 hu q
theorem rc_pairs {v u : Value} {k m : Int × List Int} (hv : PrAt s.heap v k) (hw : PrAt s.heap u m) (hu : A.units + 1 < cLine) : Ob.RcOp .Lt A s v u (ltP k m) := by
  obtain ⟨a, b, t, rfl, h1, h2⟩ := hv
  obtain ⟨a', b', t', rfl, h1', h2'⟩ := hw
  have R := Ob.RcOp.tuples_lt (A := A) (e := fun j => if j = 0 then decide (k.1 = m.1) else decide (k.2 = m.2)) (r := fun j => if j = 0 then decide (k.1 < m.1) else HT.lexLt k.2 m.2) h1 h1' (by omega) (fun j g1 g2 => by
    have : j < 2 := g1
    match j with
    | 0 =>
      show EqAt A.in1 s (.int k.1 t) (.int m.1 t') (decide (k.1 = m.1))
      rw [dec_beq]
      exact .int_int _ _ _ _
    | 1 => exact eqAt_ints h2 h2' (by rw [Around.in1_units]; omega)
    | j + 2 => omega) (fun j g1 g2 _ => by
    have : j < 2 := g1
    match j with
    | 0 => exact Ob.RcOp.lt_int _ _ _ _
    | 1 => exact rc_ints h2 h2' (by rw [Around.in1_units]; omega)
    | j + 2 => omega)
  have e : Ob.lexAt (fun j => if j = 0 then decide (k.1 = m.1) else decide (k.2 = m.2)) (fun j => if j = 0 then decide (k.1 < m.1) else HT.lexLt k.2 m.2) (decide ((#[Value.int k.1 t, Value.ref b]).size < (#[Value.int m.1 t', Value.ref b']).size)) 0 (min (#[Value.int k.1 t, Value.ref b]).size (#[Value.int m.1 t', Value.ref b']).size) = ltP k m := by
    unfold ltP
    by_cases q1 : k.1 = m.1 <;> by_cases q2 : k.2 = m.2 <;> simp [Ob.lexAt, q1, q2]
  rw [e] at R
  exact R
end
/-! ### the loop -/
/-- what was there is there -/
def Kp (h0 h : Heap) : Prop := ∀ b o, h0.get? b = some o → h.get? b = some o
theorem Kp.upd {h0 h : Heap} {S : Addr} {f : Obj → Obj} (x : Kp h0 h) (n : h0.get? S = none) : Kp h0 (h.update S f) := fun b o e => by
  rw [Heap.get?_update_other h f (show S ≠ b from fun q => by rw [← q, n] at e; cases e)]
  exact x b o e
theorem mt_name : (toString "min" ++ toString ".loop" : String) = "min.loop" := by decide
section
variable {prog : Program} {w : World} {A : Around} {R : Result → Shared → Prop} {I S l : Addr} {its : Array Value} {h0 : Heap} {bt : Nat → Nat → Bool}
/-- the cell with the best one so far -/
abbrev bestC (vs : Array Value) (c : Nat) : Obj := { cls := .type "list", dict := none, data := .seq vs c, slots := #[] }
theorem mt_go (hh : A.handled = none) (hl : h0.IsList l its) (nI : h0.get? I = none) (nS : h0.get? S = none) (hSI : S ≠ I)
    (cmp : ∀ i j vi vj (t : Shared) (Q E : Value → Shared → Prop), its[i]? = some vi → its[j]? = some vj → Kp h0 t.heap → Q (.bool (bt i j)) t → wpAny (model prog w) A.in1 (richCompare .Lt vi vj) Q E t) :
    ∀ (k j : Nat) (s : Shared) (vb : Value) (c : Nat), its.size - (j + 1) = k → j + 1 ≤ its.size → s.heap.IsListIter I l (j + 1) → Kp h0 s.heap → its[argBest bt j]? = some vb → s.heap.get? S = some (bestC #[vb, vb] c) →
      (∀ v h' tk, its[argBest bt (its.size - 1)]? = some v → Kp h0 h' → R (.ok (.ret v)) { s with heap := h', toks := tk }) → codeAny (model prog w) A (.builtin "min.loop" ⟨[.ref I, .none, .ref S], []⟩) R s := by
  have ne : l ≠ I := fun q => by obtain ⟨o, e, _⟩ := hl; rw [q, nI] at e; cases e
  have W : Walks prog w A.in1 I [I, l] [I] its.size (fun i v => its[i]? = some v) (fun i h => h.IsListIter I l i ∧ h.IsList l its) := Walks.list (A := A.in1) hh I l ne its
  have lk : ∀ h, Kp h0 h → h.IsList l its := fun h x => let ⟨o, e, r⟩ := hl; ⟨o, x _ _ e, r⟩
  have nxt : ∀ {h h' : Heap}, Kp h0 h → (∀ b o, b ∉ [I] → h.get? b = some o → h'.get? b = some o) → Kp h0 h' := fun x y b o e => y b o (fun m => by rw [List.mem_singleton.mp m, nI] at e; cases e) (x b o e)
  have sS : S ∉ [I] := fun m => hSI (List.mem_singleton.mp m)
  intro k
  induction k with
  | zero =>
    intro j s vb c hk hj it kp hb hS hR
    have jn : its.size = j + 1 := by omega
    refine codeAny_builtin PySem.F.entry_min_loop ((Around.under_plainId (A := A) PySem.F.plain_min_loop _).symm ▸ ?_)
    refine wpAny_bind (m := seqItems? (.ref S)) (wpAny_seqItems hS rfl (wpAny_bind (m := tryCatch (pyNext (.ref I)) _) (wpAny_tryCatch (W.done s _ _ (jn ▸ ⟨it, lk _ kp⟩) fun h' tk y => ?_))))
    have gS := y S _ sS hS
    refine wpAny_bind (m := updateSeq S fun _ => #[]) (wpAny_updateSeq gS rfl (wpAny_bind (wpAny_letGo (wpAny_pure (hR vb _ tk ?_ ((nxt kp y).upd nS))))))
    rw [jn]
    exact hb
  | succ k ih =>
    intro j s vb c hk hj it kp hb hS hR
    have lt : j + 1 < its.size := by omega
    refine codeAny_builtin PySem.F.entry_min_loop ((Around.under_plainId (A := A) PySem.F.plain_min_loop _).symm ▸ ?_)
    refine wpAny_bind (m := seqItems? (.ref S)) (wpAny_seqItems hS rfl (wpAny_bind (m := tryCatch (pyNext (.ref I)) _) (wpAny_tryCatch (W.item (j + 1) s _ _ lt ⟨it, lk _ kp⟩ fun v h' tk hv st y => ?_))))
    have gS := y S _ sS hS
    have kp' := nxt kp y
    refine wpAny_bind (m := tryCatch (holding [v, v] (richCompare .Lt v vb >>= _)) _) (wpAny_tryCatch (wpAny_holding (wpAny_bind (cmp (j + 1) (argBest bt j) v vb _ _ _ hv hb kp' (wpAny_bind (wpAny_holding (wpAny_truthy_bool (wpAny_bind (wpAny_letGo (wpAny_pure ?_))))))))))
    by_cases q : bt (j + 1) (argBest bt j) = true
    · have e : argBest bt (j + 1) = j + 1 := by unfold argBest; rw [if_pos q]
      rw [if_pos q]
      refine wpAny_bind (wpAny_updateSeq gS rfl (wpAny_bind (wpAny_letGo ?_)))
      rw [mt_name]
      refine wpAny_pure ⟨plainId_quiet PySem.F.plain_min_loop _, ih (j + 1) _ v _ (by omega) lt ?_ (kp'.upd nS) (by rw [e]; exact hv) (Heap.get?_update_self _ gS rfl) fun v' h'' tk' z z' => hR v' h'' tk' z z'⟩
      obtain ⟨o, e1, e2⟩ := st.1
      exact ⟨o, (Heap.get?_update_other _ _ hSI).trans e1, e2⟩
    · have e : argBest bt (j + 1) = argBest bt j := by rw [argBest, if_neg q]
      rw [if_neg q]
      refine wpAny_bind (wpAny_letGo ?_)
      rw [mt_name]
      exact wpAny_pure ⟨plainId_quiet PySem.F.plain_min_loop _, ih (j + 1) _ vb c (by omega) lt st.1 kp' (by rw [e]; exact hb) gS fun v' h'' tk' z z' => hR v' h'' tk' z z'⟩
end
section
variable {prog : Program} {w : World} {A : Around} {E : Value → Shared → Prop} {s : Shared} {l : Addr} {its : Array Value} {bt : Nat → Nat → Bool}
theorem mt_call {Q : Value → Shared → Prop} (hh : A.handled = none) (hl : s.heap.IsList l its) (hn : 0 < its.size)
    (cmp : ∀ i j vi vj (t : Shared) (Q E : Value → Shared → Prop), its[i]? = some vi → its[j]? = some vj → Kp s.heap t.heap → Q (.bool (bt i j)) t → wpAny (model prog w) A.in1 (richCompare .Lt vi vj) Q E t)
    (hQ : ∀ v h' tk, its[argBest bt (its.size - 1)]? = some v → Kp s.heap h' → Q v { s with heap := h', toks := tk }) : wpAny (model prog w) A (call (.builtin "min") [.ref l]) Q E s := by
  refine call_function_tree PySem.F.kind_min PySem.F.plain_min PySem.F.entry_min (PySem.F.args_min1 _) ?_
  refine wpAny_bind (m := Builtin.Builtins.bindParams "min" ["key", "default"] 0 ⟨[], []⟩) (wpAny_of_eq (show _ = pure [none, none] from rfl) (wpAny_bind (wpAny_pure (wpAny_bind (wpAny_pyIter_list hl (wpAny_bind (wpAny_newObj_type ?_)))))))
  obtain ⟨ol, el, rl⟩ := id hl
  have ll := Heap.lt_size el
  obtain ⟨H1, e1⟩ : ∃ H1, s.heap.push { cls := .type "list_iterator", data := .fields #[.ref l, .int 0 0] } = H1 := ⟨_, rfl⟩
  have z1 : H1.objs.size = s.heap.objs.size + 1 := by rw [← e1]; exact Heap.size_push ..
  have gI : H1.get? s.heap.objs.size = some { cls := .type "list_iterator", data := .fields #[.ref l, .int 0 0] } := by rw [← e1]; exact Heap.get?_push_size _ rfl
  have k1 : Kp s.heap H1 := fun b o e => by rw [← e1]; exact Heap.get?_push_of_some _ e
  rw [mt_name, e1]
  obtain ⟨H2, e2⟩ : ∃ H2, H1.push (bestC #[] 0) = H2 := ⟨_, rfl⟩
  have gS : H2.get? H1.objs.size = some (bestC #[] 0) := by rw [← e2]; exact Heap.get?_push_size _ rfl
  have k2 : Kp s.heap H2 := fun b o e => by rw [← e2]; exact Heap.get?_push_of_some _ (k1 b o e)
  have gI2 : H2.get? s.heap.objs.size = some { cls := .type "list_iterator", data := .fields #[.ref l, .int 0 0] } := by rw [← e2]; exact Heap.get?_push_of_some _ gI
  have nI : s.heap.get? s.heap.objs.size = none := Heap.get?_none_of_le (Nat.le_refl _)
  have nS : s.heap.get? H1.objs.size = none := Heap.get?_none_of_le (by omega)
  have hSI : H1.objs.size ≠ s.heap.objs.size := by omega
  refine wpAny_pure ⟨plainId_quiet PySem.F.plain_min_loop _, ?_⟩
  refine codeAny_builtin PySem.F.entry_min_loop ((Around.under_plainId (A := A) PySem.F.plain_min_loop _).symm ▸ ?_)
  have ne : l ≠ s.heap.objs.size := Nat.ne_of_lt ll
  have W : Walks prog w A.in1 s.heap.objs.size [s.heap.objs.size, l] [s.heap.objs.size] its.size (fun i v => its[i]? = some v) (fun i h => h.IsListIter s.heap.objs.size l i ∧ h.IsList l its) := Walks.list (A := A.in1) hh _ l ne its
  show wpAny _ _ _ _ _ { s with heap := H1.push (bestC #[] 0) }
  rw [e2]
  refine wpAny_bind (m := seqItems? (.ref H1.objs.size)) (wpAny_seqItems gS rfl (wpAny_bind (m := tryCatch (pyNext (.ref s.heap.objs.size)) _) (wpAny_tryCatch (W.item 0 _ _ _ hn ⟨⟨_, gI2, rfl, rfl⟩, ol, k2 _ _ el, rl⟩ fun v h' tk hv st y => ?_))))
  have sS : H1.objs.size ∉ [s.heap.objs.size] := fun m => hSI (List.mem_singleton.mp m)
  have gS' := y _ _ sS gS
  have k3 : Kp s.heap h' := fun b o e => y b o (fun m => by rw [List.mem_singleton.mp m, nI] at e; cases e) (k2 b o e)
  refine wpAny_bind (m := updateSeq H1.objs.size fun _ => #[v, v]) (wpAny_updateSeq gS' rfl ?_)
  rw [mt_name]
  obtain ⟨oi, f1, f2⟩ := st.1
  refine wpAny_pure ⟨plainId_quiet PySem.F.plain_min_loop _, mt_go (I := s.heap.objs.size) hh hl nI nS hSI cmp _ 0 _ v _ rfl hn ⟨oi, (Heap.get?_update_other _ _ hSI).trans f1, f2⟩ (k3.upd nS) hv (Heap.get?_update_self _ gS' rfl) fun v' h'' tk' z z' => hQ v' h'' tk' z z'⟩
end
theorem argB_eq (bt : Nat → Nat → Bool) : ∀ k, argB bt k = argBest bt k
  | 0 => rfl
  | k + 1 => by rw [argB, argBest, argB_eq bt k]
/-- pairs of values -/
def PrsV (K : PySem.W.Frag) (H : Hp) (vs : List V) (ks : List (Int × List Int)) : Prop := vs.length = ks.length ∧ ∀ (i : Nat) (k : Int × List Int), ks[i]? = some k → ∃ a b : Addr, vs[i]? = some (V.ref a) ∧ SqT K H a [.int k.1, .ref b] ∧ SqT K H b (k.2.map V.int)
def rMinP (K : PySem.W.Frag) : List V → Hp → VK → Prop := fun xs H Q => ∃ p vs ks v, xs = [.ref p] ∧ SqL K H p vs ∧ PrsV K H vs ks ∧ vs[argB (ltAt ks) (ks.length - 1)]? = some v ∧ Q v H
theorem call_minP {X : Cx} (hc : X.calm = true) (hu : X.A.units + 4 < cLine) : CallR X (.builtin "min") (rMinP X.K) := by
  intro pins s σ H xs us Q I r h
  obtain ⟨p, vs, ks, v, rfl, hs, ⟨hlen, hp⟩, hv, q⟩ := h
  obtain ⟨its, rv, hl, _⟩ := I.list hs
  rw [Vals.ref1 r]
  have l1 : its.toArray.size = ks.length := by rw [List.size_toArray, ← hlen, rv.length]
  have hn : 0 < its.toArray.size := by
    rw [l1]
    rcases Nat.eq_zero_or_pos ks.length with z | z
    · rw [z] at hlen
      have : vs = [] := List.length_eq_zero_iff.mp hlen
      rw [this] at hv
      simp at hv
    · exact z
  have pr : ∀ i u, its.toArray[i]? = some u → PrAt s.heap u (ks.getD i (0, [])) := fun i u hi => by
    have hi' : its[i]? = some u := by simpa using hi
    have lt : i < ks.length := by
      have := (List.getElem?_eq_some_iff.mp hi').1
      rw [← l1, List.size_toArray]
      exact this
    obtain ⟨a, b, e1, t1, t2⟩ := hp i ks[i] (by simp [lt])
    obtain ⟨x, e2, rx⟩ := Vals.get rv e1
    rw [hi'] at e2
    obtain rfl : u = x := Option.some.inj e2
    obtain rfl : u = Value.ref a := rx
    obtain ⟨w1, r1, p1, _⟩ := I.tuple t1
    obtain ⟨w2, r2, p2, _⟩ := I.tuple t2
    obtain ⟨u1, u2, e3, ⟨t, rfl⟩, r4⟩ := vals2 r1
    obtain rfl : u2 = Value.ref b := r4
    subst e3
    have eg : ks.getD i (0, []) = ks[i] := by simp [List.getD_eq_getElem?_getD, lt]
    rw [eg]
    exact ⟨a, b, t, rfl, p1, w2, p2, Vals.ints r2⟩
  refine mt_call (bt := ltAt ks) (I.ok.hd hc) hl.isList hn (fun i j vi vj t Q E hi hj kp q => ?_) fun u h' tk hu' kp => ?_
  · exact rc_pairs (A := X.A.in1) ((pr i vi hi).grow kp) ((pr j vj hj).grow kp) (by rw [Around.in1_units]; omega) X.prog X.w E Q q
  · rw [l1, ← argB_eq] at hu'
    obtain ⟨x, e2, rx⟩ := Vals.get rv hv
    have hu2 : its[argB (ltAt ks) (ks.length - 1)]? = some u := by simpa using hu'
    rw [hu2] at e2
    obtain rfl : u = x := Option.some.inj e2
    exact ⟨v, H, I.kept kp, rx, q⟩
section
variable {κ : Cs} {K : PySem.W.Frag} {F F2 H H2 : Hp} {ρ ρ2 : Ro} {σ : L2.St}
theorem pairI_rep (le : ∀ a o, F a = some o → H a = some o) {d : D} {k : Int × List Int} {v : V} (e : pairI d = some k) (h : Rep κ F d v) : ∃ a b, v = .ref a ∧ SqT K H a [.int k.1, .ref b] ∧ SqT K H b (k.2.map V.int) := by
  unfold pairI at e
  split at e
  · obtain ⟨l, e1, e⟩ := bnd1_of e
    cases e
    obtain ⟨a, us, rfl, h1, h2⟩ := repQ_tup (K := K) le h
    obtain ⟨x, r, rfl, h3, h4⟩ := repL_cons.mp h2
    obtain ⟨y, r, rfl, h5, h6⟩ := repL_cons.mp h4
    obtain rfl : r = [] := repL_nil.mp h6
    obtain ⟨b, ws, rfl, h7, h8⟩ := repQ_tup (K := K) le h5
    obtain rfl : x = .int _ := repQ_int (κ := κ) (F := F) (K := K) (H := H) h3
    rw [repL_ints e1 h8] at h7
    exact ⟨a, b, rfl, h1, h7⟩
  · cases e
theorem pairsI_rep (le : ∀ a o, F a = some o → H a = some o) : ∀ {ds : List D} {ks : List (Int × List Int)} {vs : List V}, pairsI ds = some ks → RepL κ F ds vs → PrsV K H vs ks
  | [], ks, vs, e, h => by
    cases e
    obtain rfl : vs = [] := repL_nil.mp h
    exact ⟨rfl, fun i k e => by simp at e⟩
  | d :: ds, ks, vs, e, h => by
    unfold pairsI at e
    obtain ⟨k, e1, e⟩ := bnd1_of e
    obtain ⟨kr, e2, e⟩ := bnd1_of e
    cases e
    obtain ⟨v, r, rfl, h1, h2⟩ := repL_cons.mp h
    obtain ⟨l, g⟩ := pairsI_rep le e2 h2
    obtain ⟨a, b, rfl, g1, g2⟩ := pairI_rep (K := K) le e1 h1
    refine ⟨by simp [l], fun i m e => ?_⟩
    cases i with
    | zero => cases e; exact ⟨a, b, rfl, g1, g2⟩
    | succ i => exact g i m (by simpa using e)
theorem bi_min (s : Step κ K F ρ σ H F2 ρ2 σ H2) {ds : List D} {vs : List V} {w : W} {Q : VK} (e : biRun .min ds = some w) (h : RepQL κ K F2 H2 ds vs) (Y : Yld κ K F ρ σ H ρ2 (.tmp w) Q) : rMinP K vs H2 Q := by
  have e : biMin ds = some w := e
  unfold biMin at e
  split at e
  · obtain ⟨ks, e1, e⟩ := bnd1_of e
    obtain ⟨d, e2, e⟩ := bnd1_of e
    cases e
    obtain ⟨v, rfl, h1⟩ := repQL1 h
    obtain ⟨a, us, rfl, h2, h3⟩ := repQ_lst h1
    obtain ⟨u, g1, g2⟩ := h3.get e2
    exact ⟨a, us, ks, u, rfl, h2, pairsI_rep (K := K) s.rel.le e1 h3, g1, yld_val s Y g2⟩
  · cases e
end
end DT

end
section
/-! DT: comprehensions; the theorem about expressions. -/
namespace DT
open PySem PySem.Spec PyProof.Rows L2

mutual
theorem asg_len : ∀ (g : G) (d : D) (ρ ρ' : Ro), asg g d ρ = some ρ' → ρ'.length = ρ.length
  | .name i, d, ρ, ρ', h => by unfold asg at h; cases h; rw [List.length_set]
  | .tup gs, .tup ds, ρ, ρ', h => by unfold asg at h; exact asgs_len gs ds ρ ρ' h
  | .tup gs, .non, ρ, ρ', h => by unfold asg at h; cases h
  | .tup gs, .bl _, ρ, ρ', h => by unfold asg at h; cases h
  | .tup gs, .int _, ρ, ρ', h => by unfold asg at h; cases h
  | .tup gs, .str _, ρ, ρ', h => by unfold asg at h; cases h
  | .tup gs, .lst _, ρ, ρ', h => by unfold asg at h; cases h
  | .tup gs, .ins _ _, ρ, ρ', h => by unfold asg at h; cases h
  | .tup gs, .cls _, ρ, ρ', h => by unfold asg at h; cases h
  | .tup gs, .dic _ _, ρ, ρ', h => by unfold asg at h; cases h
theorem asgs_len : ∀ (gs : List G) (ds : List D) (ρ ρ' : Ro), asgs gs ds ρ = some ρ' → ρ'.length = ρ.length
  | [], [], ρ, ρ', h => by unfold asgs at h; cases h; rfl
  | [], _ :: _, ρ, ρ', h => by unfold asgs at h; cases h
  | _ :: _, [], ρ, ρ', h => by unfold asgs at h; cases h
  | g :: gs, d :: ds, ρ, ρ', h => by
    unfold asgs at h
    cases q : asg g d ρ with
    | none => rw [q] at h; cases h
    | some ρ1 =>
      rw [q] at h
      rw [asgs_len gs ds ρ1 ρ' h, asg_len g d ρ ρ1 q]
end
theorem wipe_in {σ : L2.St} {i : Nat} : ∀ {vs : List Nat}, i ∈ vs → i < σ.length → (L2.wipe σ vs)[i]? = some none
  | [], h, _ => by simp at h
  | v :: vs, h, hl => by
    unfold L2.wipe
    by_cases e : v = i
    · subst e
      exact List.getElem?_set_self (by rw [wipe_length]; exact hl)
    · rw [List.getElem?_set_ne e]
      exact wipe_in (by rcases List.mem_cons.mp h with z | z; exact absurd z.symm e; exact z) hl
theorem wipe_eq {σ σ2 : L2.St} {vs : List Nat} (hl : σ2.length = σ.length) (h : ∀ k, k ∉ vs → σ2[k]? = σ[k]?) : L2.wipe σ2 vs = L2.wipe σ vs := by
  apply List.ext_getElem?
  intro i
  by_cases hi : i ∈ vs
  · by_cases hb : i < σ.length
    · rw [wipe_in hi hb, wipe_in hi (by rw [hl]; exact hb)]
    · rw [List.getElem?_eq_none (by rw [wipe_length, hl]; omega), List.getElem?_eq_none (by rw [wipe_length]; omega)]
  · rw [wipe_out hi, wipe_out hi, h i hi]
theorem wipe_wipe {σ : L2.St} {vs : List Nat} : L2.wipe (L2.wipe σ vs) vs = L2.wipe σ vs := wipe_eq (wipe_length σ vs) fun k hk => wipe_out hk
section
variable {κ : Cs} {K : PySem.W.Frag} {F F1 F2 H H0 H1 H2 : Hp} {ρ ρ1 ρ2 : Ro} {σ σ1 σ2 : L2.St}
theorem own_back {vs : List Nat} (hc : clearR ρ vs = true) {a : Addr} (h : Own (backR ρ ρ1 vs) σ a) : Own ρ1 (L2.wipe σ vs) a := by
  obtain ⟨j, ds, h1, h2⟩ := h
  rcases backR_at h1 with ⟨q1, q2⟩ | ⟨q1, q2⟩
  · obtain ⟨d, e⟩ := clear_at hc q1 q2
    cases e
  · exact ⟨j, ds, q2, by rw [wipe_out q1]; exact h2⟩
theorem own_wipe {vs : List Nat} {a : Addr} (h : Own (wipeR ρ vs) (L2.wipe σ vs) a) : Own ρ σ a := by
  obtain ⟨j, ds, h1, h2⟩ := h
  obtain ⟨q1, q2⟩ := wipeR_at h1
  exact ⟨j, ds, q1, by rw [wipe_out q2] at h2; exact h2⟩
/-- a list that no slot has stays as it is -/
theorem Step.keepL (s : Step κ K F ρ σ H F1 ρ1 σ1 H1) {a : Addr} {vs : List V} (hH : H a = some (.lst vs)) (hF : F a = none) (hn : ¬ Own ρ σ a) : H1 a = some (.lst vs) ∧ F1 a = none ∧ ¬ Own ρ1 σ1 a := by
  refine ⟨s.keep a _ hH hn, ?_, fun z => ?_⟩
  · cases e : F1 a with
    | none => rfl
    | some o =>
      rcases s.new a o e with z | z | z
      · rw [hF] at z; cases z
      · rw [hH] at z; cases z
      · exact absurd z hn
  · rcases s.own a z with z | z
    · exact hn z
    · rw [hH] at z; cases z
theorem upd_self {H : Hp} {D : Addr} {o : HO} (h : H D = some o) : upd H D o = H := by
  funext a
  by_cases e : a = D
  · subst e; rw [upd_same, h]
  · rw [upd_ne e]
/-- a list of nobody's is another one at both ends -/
theorem Step.chBoth {D : Addr} {x y : HO} (s : Step κ K F ρ σ (upd H D x) F1 ρ1 σ1 H1) (r : Rel κ K F1 ρ1 σ1 (upd H1 D y)) : Step κ K F ρ σ (upd H D y) F1 ρ1 σ1 (upd H1 D y) where
  rel := r
  ex := s.ex
  new := fun a o h => by
    rcases s.new a o h with z | z | z
    · exact .inl z
    · by_cases e : a = D
      · subst e; rw [upd_same] at z; cases z
      · rw [upd_ne e] at z; exact .inr (.inl (by rw [upd_ne e]; exact z))
    · exact .inr (.inr z)
  keep := fun a o h n => by
    by_cases e : a = D
    · subst e; rw [upd_same] at h ⊢; exact h
    · rw [upd_ne e] at h ⊢; exact s.keep a o (by rw [upd_ne e]; exact h) n
  dom := fun a h => by
    by_cases e : a = D
    · subst e; rw [upd_same]; intro z; cases z
    · rw [upd_ne e] at h ⊢; exact s.dom a (by rw [upd_ne e]; exact h)
  own := fun a h => by
    rcases s.own a h with z | z
    · exact .inl z
    · by_cases e : a = D
      · subst e; rw [upd_same] at z; cases z
      · rw [upd_ne e] at z; exact .inr (by rw [upd_ne e]; exact z)
  bor := s.bor
end
section
variable {κ : Cs} {Γ : Nat → Option Fn} {nm : Nm} {gl : Str → Option D} {L : Nat} {N : List Str} {X : Cx} {sc : Scope} {fp : Str → Bool}
/-- a comprehension's turns -/
theorem comp_run {elt it c : E} {g : G} {own : List Nat} (hg : ∀ i ∈ gSlots g, i ∈ own) {σ : L2.St} {H : Hp} {Q : VK} (q : TEv κ Γ gl X.K (.comp elt g it c own) σ H Q) : tLc (TIv κ Γ gl X.K it) (TGv κ X.K g) (TTv κ Γ gl X.K c) (TEv κ Γ gl X.K elt) own σ H Q := by
  obtain ⟨F, ρ, p, ρ', rel, e, Y⟩ := q
  unfold evE at e
  obtain ⟨ds, ρ1, h1, e⟩ := bnd2_of e
  obtain ⟨hc, e⟩ := req_of e
  obtain ⟨out, ρ2, h2, e⟩ := bnd2_of e
  cases e
  refine ⟨F, ρ, ds, ρ1, rel, h1, fun F1 H1 J s0 w D hD => ?_⟩
  obtain ⟨GG, YY, wk, wG, wY⟩ := w
  let Pv : Nat → Hp → Prop := fun i Hc => ∃ Fc ρc acc accV, Step κ X.K F1 ρ1 σ H1 Fc ρc (L2.wipe σ own) Hc ∧ Hc D = some (.lst accV) ∧ RepL κ Fc acc accV ∧ Fc D = none ∧ ¬ Own ρc (L2.wipe σ own) D ∧
    compL own g (fun ρ => tstOf (evE Γ gl c ρ)) (fun ρ => evE Γ gl elt ρ) (ds.drop i) ρc acc = some (out, ρ2)
  refine lc_it wk Pv ?_ (fun i Hc _ ⟨Fc, ρc, acc, accV, sc, _⟩ => wG H1 Fc ρc _ Hc (Alt.refl κ X.K _ _ _ _) sc) (fun i x Hc H2 hi ⟨Fc, ρc, acc, accV, sc, hL, hr, hF, hn, hl⟩ y => ?_) fun Hc ⟨Fc, ρc, acc, accV, sc, hL, hr, hF, hn, hl⟩ => ?_
  · exact ⟨F1, wipeR ρ1 own, [], [], ((Step.refl s0.rel).alloc (o := .lst []) hD).wipe own, upd_same, repL_nil.mpr rfl, s0.rel.noF hD, fun z => s0.rel.noOwn hD (own_wipe z), h2⟩
  · obtain ⟨d, hd⟩ : ∃ d, ds[i]? = some d := ⟨ds[i], by simp [hi]⟩
    obtain ⟨F2, s2, hx⟩ := wY H1 Fc ρc _ Hc i x H2 d (Alt.refl κ X.K _ _ _ _) sc y hd
    have hdrop : ds.drop i = d :: ds.drop (i + 1) := by
      obtain ⟨_, e⟩ := List.getElem?_eq_some_iff.mp hd
      rw [← e]
      exact (List.drop_eq_getElem_cons hi)
    rw [hdrop] at hl
    unfold compL at hl
    obtain ⟨ρg, e1, hl⟩ := bnd1_of hl
    obtain ⟨b, ρt, e2, hl⟩ := bnd2_of hl
    refine ⟨F2, ρc, d, ρg, s2.rel, hx, e1, fun σ2 s3 hout => ?_⟩
    have hlen : σ2.length = σ.length := by
      have l1 := s3.rel.len
      have l2 := s2.rel.len
      have l3 := asg_len _ _ _ _ e1
      rw [wipe_length] at l2
      omega
    have hw : L2.wipe σ2 own = L2.wipe σ own := by
      rw [← wipe_wipe (σ := σ)]
      refine wipe_eq (by rw [wipe_length]; exact hlen) fun k hk => hout k fun z => hk (hg k z)
    refine ⟨hw, F2, ρg, b, ρt, s3.rel, e2, fun F4 H4 s4 => ?_⟩
    cases b with
    | false =>
      have S := s2.trans (s3.trans s4)
      obtain ⟨k1, k2, k3⟩ := S.keepL hL hF hn
      have W := (sc.trans S).wipe own
      rw [hw] at W
      exact ⟨F4, wipeR ρt own, acc, accV, W, k1, RepL.mono S.ex _ _ hr, k2, fun z => k3 (own_wipe (by rw [hw]; exact z)), hl⟩
    | true =>
      obtain ⟨pe, ρ3, e3, hl⟩ := bnd2_of hl
      obtain ⟨xd, ρ4, e4, hl⟩ := bnd2_of hl
      obtain ⟨hz, hl⟩ := req_of hl
      refine ⟨F4, ρt, pe, ρ3, s4.rel, e3, fun F5 H5 v s5 r5 => ?_⟩
      obtain ⟨F6, s6, hv, _⟩ := toVal_step s5 r5.weak e4
      have S := s2.trans (s3.trans (s4.trans s6))
      obtain ⟨k1, k2, k3⟩ := S.keepL hL hF hn
      refine ⟨accV, k1, by rw [← hr.length]; exact big_lt (of_decide_eq_true hz), ?_⟩
      have W := ((sc.trans S).chFresh s0.rel hD k2 k3 (o := .lst (accV ++ [v]))).wipe own
      rw [hw] at W
      exact ⟨F6, wipeR ρ4 own, acc ++ [xd], accV ++ [v], W, upd_same, (RepL.mono S.ex _ _ hr).append (repL_cc.mpr ⟨hv, repL_nil.mpr rfl⟩), k2, fun z => k3 (own_wipe (by rw [hw]; exact z)), hl⟩
  · rw [List.drop_length] at hl
    unfold compL at hl
    cases hl
    refine Y Fc Hc (.ref D) (s0.trans (Step.back s0.rel hc sc)) ?_
    exact ⟨D, accV, rfl, s0.none_back hD, hL, hF, fun z => hn (own_back hc z), hr⟩
theorem s_comp (G : Good κ Γ nm gl L N X sc fp) {t : Bool} {elt it c : E} {g : DT.G} {own : List Nat} {y tg iter : Expr} {ifs : List Expr} {scope : Scope} {pos : Pos} (hi : PI X tg iter (TIv κ Γ gl X.K it)) (hs : notSet iter = true) (hb : blkC N sc scope (ownL N own) = true)
    (hg : agG N (relS scope sc) (fun n => scope.names.lookup n == some .cell) g tg = true) (ho : (gSlots g).all (fun i => own.contains i) = true)
    (ht : ∀ X, Good κ Γ nm gl L N X (relS scope sc) (fun n => scope.names.lookup n == some .cell) → PTs X ifs (TTv κ Γ gl X.K c))
    (he : ∀ X, Good κ Γ nm gl L N X (relS scope sc) (fun n => scope.names.lookup n == some .cell) → PE X y (TEv κ Γ gl X.K elt)) :
    SndE κ Γ gl X t (.comp elt g it c own) (.ListComp y [⟨tg, iter, ifs, 0⟩] scope pos) := by
  have ok : BlkOk X.N X.env.scope scope (ownL N own) := by rw [G.hN, G.hsc]; exact blkOk_by hb
  have eo : (ownL N own).map (·.2) = own := by
    unfold ownL
    rw [List.map_map]
    exact List.map_id own
  have r := pe_lc (pos := pos) (g := TGv κ X.K g) (tt := TTv κ Γ gl X.K c) (te := TEv κ Γ gl X.K elt) G.calm (by rw [G.hN]; exact G.nd) hi ok (fun s H C cl fl => sndG g _ _ _ _ (G.blk s H C cl fl) hg) (fun s H C cl fl => ht _ (G.blk s H C cl fl)) (fun s H C cl fl => he _ (G.blk s H C cl fl)) (fun x => set_no hs X.env x)
  rw [eo] at r
  exact snd_plain (PE.imp r fun σ H Q q => comp_run (fun i hi => by simpa using List.all_eq_true.mp ho i hi) q) rfl

/-- turns of a walk, whatever a turn does -/
theorem loop_it {J : It} {n : Nat} {GG : Hp → Prop} {YY : Nat → Hp → V → Hp → Prop} (w : Walk J n GG YY) {B : V → Hp → (Hp → Prop) → Prop} {H0 : Hp} {Qd : Hp → Prop} (Pv : Nat → Hp → Prop) (h0 : Pv 0 H0) (hG : ∀ i H, i ≤ n → Pv i H → GG H)
    (hs : ∀ i x H H', i < n → Pv i H → YY i H x H' → B x H' (Pv (i + 1))) (hd : ∀ H, Pv n H → Qd H) :
    ∃ W : Nat → Nat → Hp → Prop, (∃ m, W 0 m H0) ∧ ∀ i m H, W i m H →
      (J.stop i H ∧ Qd H) ∨ (J.go i H ∧ ∃ Nx : Hp → Prop, (∀ H', Nx H' → ∃ m', m' < m ∧ W (i + 1) m' H') ∧ ∀ x H', J.yld i H x H' → B x H' Nx) := by
  refine ⟨fun i m H => m = n - i ∧ i ≤ n ∧ Pv i H, ⟨n, by simp, Nat.zero_le _, h0⟩, ?_⟩
  rintro i m H ⟨rfl, hi, p⟩
  have q := hG i H hi p
  by_cases hlt : i < n
  · exact .inr ⟨w.goes i H hlt q, Pv (i + 1), fun H' p' => ⟨n - (i + 1), by omega, rfl, hlt, p'⟩, fun x H' y => hs i x H H' hlt p (w.yields i H x H' hlt q y)⟩
  · have e : i = n := by omega
    subst e
    exact .inl ⟨w.stops H q, hd H p⟩
/-- a comprehension's turns, with a second source -/
theorem comp2_run {elt it c it1 c1 : E} {g g1 : G} {own own1 : List Nat} (hg : ∀ i ∈ gSlots g, i ∈ own) (hg1 : ∀ i ∈ gSlots g1, i ∈ own1) (ho1 : ∀ i ∈ own1, i ∈ own) {σ : L2.St} {H : Hp} {Q : VK} (q : TEv κ Γ gl X.K (.comp2 elt g it c own g1 it1 c1 own1) σ H Q) :
    tLc2 (TIv κ Γ gl X.K it) (TGv κ X.K g) (TTv κ Γ gl X.K c) (TIv κ Γ gl X.K it1) (TGv κ X.K g1) (TTv κ Γ gl X.K c1) (TEv κ Γ gl X.K elt) own own1 σ H Q := by
  obtain ⟨F, ρ, p, ρ', rel, e, Y⟩ := q
  unfold evE at e
  obtain ⟨ds, ρ1, h1, e⟩ := bnd2_of e
  obtain ⟨hc, e⟩ := req_of e
  obtain ⟨out, ρ2, h2, e⟩ := bnd2_of e
  cases e
  refine ⟨F, ρ, ds, ρ1, rel, h1, fun F1 H1 J s0 w D hD => ?_⟩
  obtain ⟨GG, YY, wk, wG, wY⟩ := w
  obtain ⟨inn, hinn⟩ : ∃ inn, inn = compL own1 g1 (fun ρ => tstOf (evE Γ gl c1 ρ)) (fun ρ => evE Γ gl elt ρ) := ⟨_, rfl⟩
  rw [← hinn] at h2
  let Pv : Nat → Hp → Prop := fun i Hc => ∃ Fc ρc acc accV, Step κ X.K F1 ρ1 σ H1 Fc ρc (L2.wipe σ own) Hc ∧ Hc D = some (.lst accV) ∧ RepL κ Fc acc accV ∧ Fc D = none ∧ ¬ Own ρc (L2.wipe σ own) D ∧
    compL2 own g (fun ρ => tstOf (evE Γ gl c ρ)) (fun ρ => evI Γ gl it1 ρ) own1 inn (ds.drop i) ρc acc = some (out, ρ2)
  refine loop_it wk Pv ?_ (fun i Hc _ ⟨Fc, ρc, acc, accV, sc, _⟩ => wG H1 Fc ρc _ Hc (Alt.refl κ X.K _ _ _ _) sc) (fun i x Hc H2 hi ⟨Fc, ρc, acc, accV, sc, hL, hr, hF, hn, hl⟩ y => ?_) fun Hc ⟨Fc, ρc, acc, accV, sc, hL, hr, hF, hn, hl⟩ => ?_
  · exact ⟨F1, wipeR ρ1 own, [], [], ((Step.refl s0.rel).alloc (o := .lst []) hD).wipe own, upd_same, repL_nil.mpr rfl, s0.rel.noF hD, fun z => s0.rel.noOwn hD (own_wipe z), h2⟩
  · obtain ⟨d, hd⟩ : ∃ d, ds[i]? = some d := ⟨ds[i], by simp [hi]⟩
    obtain ⟨F2, s2, hx⟩ := wY H1 Fc ρc _ Hc i x H2 d (Alt.refl κ X.K _ _ _ _) sc y hd
    have hdrop : ds.drop i = d :: ds.drop (i + 1) := by
      obtain ⟨_, e⟩ := List.getElem?_eq_some_iff.mp hd
      rw [← e]
      exact (List.drop_eq_getElem_cons hi)
    rw [hdrop] at hl
    unfold compL2 at hl
    obtain ⟨ρg, e1, hl⟩ := bnd1_of hl
    obtain ⟨b, ρt, e2, hl⟩ := bnd2_of hl
    refine ⟨F2, ρc, d, ρg, s2.rel, hx, e1, fun σ2 s3 hout => ?_⟩
    have hlen : σ2.length = σ.length := by
      have l1 := s3.rel.len
      have l2 := s2.rel.len
      have l3 := asg_len _ _ _ _ e1
      rw [wipe_length] at l2
      omega
    have hw : L2.wipe σ2 own = L2.wipe σ own := by
      rw [← wipe_wipe (σ := σ)]
      refine wipe_eq (by rw [wipe_length]; exact hlen) fun k hk => hout k fun z => hk (hg k z)
    refine ⟨hw, F2, ρg, b, ρt, s3.rel, e2, fun F4 H4 s4 => ?_⟩
    cases b with
    | false =>
      have S := s2.trans (s3.trans s4)
      obtain ⟨k1, k2, k3⟩ := S.keepL hL hF hn
      have W := (sc.trans S).wipe own
      rw [hw] at W
      exact ⟨F4, wipeR ρt own, acc, accV, W, k1, RepL.mono S.ex _ _ hr, k2, fun z => k3 (own_wipe (by rw [hw]; exact z)), hl⟩
    | true =>
      obtain ⟨es, ρ3, e3, hl⟩ := bnd2_of hl
      obtain ⟨acc', ρ4, e4, hl⟩ := bnd2_of hl
      refine ⟨F4, ρt, es, ρ3, s4.rel, e3, fun F5 H5 J1 s5 w1 => ?_⟩
      obtain ⟨GG1, YY1, wk1, wG1, wY1⟩ := w1
      have S := s2.trans (s3.trans (s4.trans s5))
      have S0 := sc.trans S
      obtain ⟨k1, k2, k3⟩ := S.keepL hL hF hn
      have al : ∀ v, Alt κ X.K F5 ρ3 σ2 H5 (upd H5 D (.lst v)) := fun v j l a hj1 hj2 => by
        by_cases z : a = D
        · subst z
          exact .inr (bor_free s0.rel S0 (.inl hD) hj1 hj2)
        · exact .inl (upd_ne z)
      have SV := fun v => S0.chFresh s0.rel hD k2 k3 (o := .lst v)
      subst hinn
      let Pv1 : Nat → Hp → Prop := fun j Hd => ∃ Fd ρd accd accVd, Step κ X.K F5 ρ3 σ2 (upd H5 D (.lst accVd)) Fd ρd (L2.wipe σ2 own1) Hd ∧ Hd D = some (.lst accVd) ∧ RepL κ Fd accd accVd ∧ Fd D = none ∧ ¬ Own ρd (L2.wipe σ2 own1) D ∧
        compL own1 g1 (fun ρ => tstOf (evE Γ gl c1 ρ)) (fun ρ => evE Γ gl elt ρ) (es.drop j) ρd accd = some (acc', ρ4)
      refine loop_it wk1 Pv1 ?_ (fun j Hd _ ⟨Fd, ρd, accd, accVd, sc1, _⟩ => wG1 _ Fd ρd _ Hd (al accVd) sc1) (fun j y Hd H6 hj ⟨Fd, ρd, accd, accVd, sc1, hL1, hr1, hF1, hn1, hl1⟩ yy => ?_) fun Hd ⟨Fd, ρd, accd, accVd, sc1, hL1, hr1, hF1, hn1, hl1⟩ => ?_
      · refine ⟨F5, wipeR ρ3 own1, acc, accV, ?_, k1, RepL.mono S.ex _ _ hr, k2, fun z => k3 (own_wipe z), e4⟩
        rw [upd_self k1]
        exact (Step.refl S0.rel).wipe own1
      · obtain ⟨d1, hd1⟩ : ∃ d1, es[j]? = some d1 := ⟨es[j], by simp [hj]⟩
        obtain ⟨F6, s6, hx1⟩ := wY1 _ Fd ρd _ Hd j y H6 d1 (al accVd) sc1 yy hd1
        have hdrop1 : es.drop j = d1 :: es.drop (j + 1) := by
          obtain ⟨_, e⟩ := List.getElem?_eq_some_iff.mp hd1
          rw [← e]
          exact (List.drop_eq_getElem_cons hj)
        rw [hdrop1] at hl1
        unfold compL at hl1
        obtain ⟨ρg1, e5, hl1⟩ := bnd1_of hl1
        obtain ⟨b1, ρt1, e6, hl1⟩ := bnd2_of hl1
        refine ⟨F6, ρd, d1, ρg1, s6.rel, hx1, e5, fun σ3 s7 hout1 => ?_⟩
        have hlen1 : σ3.length = σ2.length := by
          have l1 := s7.rel.len
          have l2 := s6.rel.len
          have l3 := asg_len _ _ _ _ e5
          rw [wipe_length] at l2
          omega
        have hw1 : L2.wipe σ3 own1 = L2.wipe σ2 own1 := by
          rw [← wipe_wipe (σ := σ2)]
          refine wipe_eq (by rw [wipe_length]; exact hlen1) fun k hk => hout1 k fun z => hk (hg1 k z)
        refine ⟨hw1, F6, ρg1, b1, ρt1, s7.rel, e6, fun F8 H8 s8 => ?_⟩
        cases b1 with
        | false =>
          have S1 := s6.trans (s7.trans s8)
          obtain ⟨q1, q2, q3⟩ := S1.keepL hL1 hF1 hn1
          have W := (sc1.trans S1).wipe own1
          rw [hw1] at W
          exact ⟨F8, wipeR ρt1 own1, accd, accVd, W, q1, RepL.mono S1.ex _ _ hr1, q2, fun z => q3 (own_wipe (by rw [hw1]; exact z)), hl1⟩
        | true =>
          obtain ⟨pe, ρ5, e7, hl1⟩ := bnd2_of hl1
          obtain ⟨xd, ρ6, e8, hl1⟩ := bnd2_of hl1
          obtain ⟨hz, hl1⟩ := req_of hl1
          refine ⟨F8, ρt1, pe, ρ5, s8.rel, e7, fun F9 H9 v s9 r9 => ?_⟩
          obtain ⟨F10, s10, hv, _⟩ := toVal_step s9 r9.weak e8
          have S1 := s6.trans (s7.trans (s8.trans s10))
          obtain ⟨q1, q2, q3⟩ := S1.keepL hL1 hF1 hn1
          refine ⟨accVd, q1, by rw [← hr1.length]; exact big_lt (of_decide_eq_true hz), ?_⟩
          have SS := sc1.trans S1
          have R := ((SV accVd).trans SS).chFresh s0.rel hD q2 q3 (o := .lst (accVd ++ [v]))
          have W := (SS.chBoth R.rel).wipe own1
          rw [hw1] at W
          exact ⟨F10, wipeR ρ6 own1, accd ++ [xd], accVd ++ [v], W, upd_same, (RepL.mono S1.ex _ _ hr1).append (repL_cc.mpr ⟨hv, repL_nil.mpr rfl⟩), q2, fun z => q3 (own_wipe (by rw [hw1]; exact z)), hl1⟩
      · rw [List.drop_length] at hl1
        unfold compL at hl1
        cases hl1
        have hwo : L2.wipe (L2.wipe σ2 own1) own = L2.wipe σ own := (wipe_eq (by rw [wipe_length]) fun k hk => wipe_out fun z => hk (ho1 k z)).trans hw
        have W := ((SV accVd).trans sc1).wipe own
        rw [hwo] at W
        exact ⟨Fd, wipeR ρ4 own, acc', accVd, W, hL1, hr1, hF1, fun z => hn1 (own_wipe (vs := own) (by rw [hwo]; exact z)), hl⟩
  · rw [List.drop_length] at hl
    unfold compL2 at hl
    cases hl
    refine Y Fc Hc (.ref D) (s0.trans (Step.back s0.rel hc sc)) ?_
    exact ⟨D, accV, rfl, s0.none_back hD, hL, hF, fun z => hn (own_back hc z), hr⟩
theorem s_comp2 (G : Good κ Γ nm gl L N X sc fp) {t : Bool} {elt it c it1 c1 : E} {g g1 : DT.G} {own own1 : List Nat} {y tg iter tg1 iter1 : Expr} {ifs ifs1 : List Expr} {scope : Scope} {pos : Pos} (hi : PI X tg iter (TIv κ Γ gl X.K it)) (hs : notSet iter = true) (hs1 : notSet iter1 = true) (hb : blkC N sc scope (ownL N own) = true)
    (hg : agG N (relS scope sc) (fun n => scope.names.lookup n == some .cell) g tg = true) (ho : (gSlots g).all (fun i => own.contains i) = true)
    (hg1 : agG N (relS scope sc) (fun n => scope.names.lookup n == some .cell) g1 tg1 = true) (ho1 : (gSlots g1).all (fun i => own1.contains i) = true) (ho2 : own1.all (fun i => own.contains i) = true)
    (hi1 : ∀ X, Good κ Γ nm gl L N X (relS scope sc) (fun n => scope.names.lookup n == some .cell) → PI X tg1 iter1 (TIv κ Γ gl X.K it1))
    (ht : ∀ X, Good κ Γ nm gl L N X (relS scope sc) (fun n => scope.names.lookup n == some .cell) → PTs X ifs (TTv κ Γ gl X.K c))
    (ht1 : ∀ X, Good κ Γ nm gl L N X (relS scope sc) (fun n => scope.names.lookup n == some .cell) → PTs X ifs1 (TTv κ Γ gl X.K c1))
    (he : ∀ X, Good κ Γ nm gl L N X (relS scope sc) (fun n => scope.names.lookup n == some .cell) → PE X y (TEv κ Γ gl X.K elt)) :
    SndE κ Γ gl X t (.comp2 elt g it c own g1 it1 c1 own1) (.ListComp y [⟨tg, iter, ifs, 0⟩, ⟨tg1, iter1, ifs1, 0⟩] scope pos) := by
  have ok : BlkOk X.N X.env.scope scope (ownL N own) := by rw [G.hN, G.hsc]; exact blkOk_by hb
  have eo : (ownL N own).map (·.2) = own := by
    unfold ownL
    rw [List.map_map]
    exact List.map_id own
  have o2 : ∀ i ∈ own1, i ∈ own := fun i hi => by simpa using List.all_eq_true.mp ho2 i hi
  have r := pe_lc2 (pos := pos) (vs1 := own1) (g := TGv κ X.K g) (tt := TTv κ Γ gl X.K c) (wi1 := TIv κ Γ gl X.K it1) (g1 := TGv κ X.K g1) (tt1 := TTv κ Γ gl X.K c1) (te := TEv κ Γ gl X.K elt) G.calm (by rw [G.hN]; exact G.nd) hi ok (by rw [eo]; exact o2)
    (fun s H C cl fl => sndG g _ _ _ _ (G.blk s H C cl fl) hg) (fun s H C cl fl => ht _ (G.blk s H C cl fl)) (fun s H C cl fl => hi1 _ (G.blk s H C cl fl)) (fun s H C cl fl => sndG g1 _ _ _ _ (G.blk s H C cl fl) hg1) (fun s H C cl fl => ht1 _ (G.blk s H C cl fl)) (fun s H C cl fl => he _ (G.blk s H C cl fl)) (fun x => set_no hs X.env x) (fun env x => set_no hs1 env x)
  rw [eo] at r
  exact snd_plain (PE.imp r fun σ H Q q => comp2_run (fun i hi => by simpa using List.all_eq_true.mp ho i hi) (fun i hi => by simpa using List.all_eq_true.mp ho1 i hi) o2 q) rfl

/-! ### built-ins -/
def plainBi : Bi → Bool
  | .len => true | .tuple => true | .list => true | .all => true | .any => true | .str => true | .repr => true | .max2 => true | .min2 => true | .min => true | _ => false
def plainBm : Bm → Bool
  | .join => true | .split => true | .startswith => true | .endswith => true | _ => false
theorem prg_A {a : Expr} {ta : TA} {p pos : Pos} (hg : Gl X "range") (hm : X.mg "range" = none) (ha : PA X [a] ta) (na : starEach [a] X.env = (false, eval a X.env) :: starEach [] X.env) : PRg X (.Call (.Name "range" p) [a] [] pos) (fun σ H Q => ta σ H fun vs H1 => ∃ n : Int, vs = [.int n] ∧ Q 0 n H1) := by
  intro pins s σ H Q I h
  refine Call_ (ld_blt I hg hm boot_range (PyProof.Rows.callWith_type1 (thn (ha.run pos pins s σ H _ I h) fun us s1 ⟨vs, H1, I1, r1, q1⟩ => ?_) na rfl))
  obtain ⟨n, rfl, q⟩ := q1
  cases r1 with
  | cons r rr =>
    cases rr
    obtain ⟨t, rfl⟩ := r
    exact call_range_1 ⟨_, 0, n, _, _, _, H1, rfl, IsRange.new _ _ _ _ _ _ _, I1.kept fun b u e => Heap.get?_push_of_some _ e, q⟩
theorem s_bi (G : Good κ Γ nm gl L N X sc fp) {t : Bool} {b : Bi} {es : List E} {n : Str} {y : Expr} {ys : List Expr} {p pos : Pos} (hg : isGl sc n = true) (hs : (y :: ys).all notStar = true) (ha : PA X (y :: ys) (TAv κ Γ gl X.K es)) (hn : n = biName b)
    (hb : plainBi b = true) (hgb : b = .repr → nm.gb = true) : SndE κ Γ gl X t (.bi b es) (.Call (.Name n p) (y :: ys) [] pos) := by
  subst hn
  rw [List.all_cons, Bool.and_eq_true] at hs
  have h1 := star_no hs.1 ys X.env
  have h2 := star_all hs.2 X.env pos
  have hu := G.room.units
  cases b with
  | len => exact snd_plain (PE.imp (pe_callB (r := rLenA X.K) (CallR.or call_len_seq call_len_str) (G.gl' hg) (G.blt (by decide)) boot_len ha (by decide) (by decide) h1 h2) fun σ H Q q => bi_run (fun F ρ F2 ρ2 H2 ds vs w s e h Y => bi_len s e h Y) q) rfl
  | tuple => exact snd_plain (PE.imp (pe_callTy call_tuple_F (G.gl' hg) (G.blt (by decide)) PyProof.Rows.boot_tuple ha (by decide) (by decide) h1 h2) fun σ H Q q => bi_run (fun F ρ F2 ρ2 H2 ds vs w s e h Y => bi_tuple s e h Y) q) rfl
  | list => exact snd_plain (PE.imp (pe_callTy call_list_of (G.gl' hg) (G.blt (by decide)) PyProof.Rows.boot_list ha (by decide) (by decide) h1 h2) fun σ H Q q => bi_run (fun F ρ F2 ρ2 H2 ds vs w s e h Y => bi_list s e h Y) q) rfl
  | all => exact snd_plain (PE.imp (pe_callB (cr_all G.calm) (G.gl' hg) (G.blt (by decide)) boot_all ha (by decide) (by decide) h1 h2) fun σ H Q q => bi_run (fun F ρ F2 ρ2 H2 ds vs w s e h Y => bi_all s e h Y) q) rfl
  | any => exact snd_plain (PE.imp (pe_callB (cr_any G.calm) (G.gl' hg) (G.blt (by decide)) boot_any ha (by decide) (by decide) h1 h2) fun σ H Q q => bi_run (fun F ρ F2 ρ2 H2 ds vs w s e h Y => bi_any s e h Y) q) rfl
  | str => exact snd_plain (PE.imp (pe_callTy (CallR.or call_str_int SkE.call_str_str) (G.gl' hg) (G.blt (by decide)) PyProof.Rows.boot_str ha (by decide) (by decide) h1 h2) fun σ H Q q => bi_run (fun F ρ F2 ρ2 H2 ds vs w s e h Y => bi_str s e h Y) q) rfl
  | repr => exact snd_plain (PE.imp (pe_callB (cr_repr (G.gd (hgb rfl)) hu) (G.gl' hg) (G.blt (by decide)) PyProof.Rows.boot_repr ha (by decide) (by decide) h1 h2) fun σ H Q q => bi_run (fun F ρ F2 ρ2 H2 ds vs w s e h Y => bi_repr s e h Y) q) rfl
  | max2 => exact snd_plain (PE.imp (pe_callB (call_max2 G.calm) (G.gl' hg) (G.blt (by decide)) PyProof.Rows.boot_max ha (by decide) (by decide) h1 h2) fun σ H Q q => bi_run (fun F ρ F2 ρ2 H2 ds vs w s e h Y => bi_max2 s e h Y) q) rfl
  | min2 => exact snd_plain (PE.imp (pe_callB (call_min2 G.calm) (G.gl' hg) (G.blt (by decide)) PyProof.Rows.boot_min ha (by decide) (by decide) h1 h2) fun σ H Q q => bi_run (fun F ρ F2 ρ2 H2 ds vs w s e h Y => bi_min2 s e h Y) q) rfl
  | min => exact snd_plain (PE.imp (pe_callB (call_minP G.calm (by omega)) (G.gl' hg) (G.blt (by decide)) PyProof.Rows.boot_min ha (by decide) (by decide) h1 h2) fun σ H Q q => bi_run (fun F ρ F2 ρ2 H2 ds vs w s e h Y => bi_min s e h Y) q) rfl
  | _ => cases hb
theorem s_listRange (G : Good κ Γ nm gl L N X sc fp) {t : Bool} {es : List E} {z : Expr} {p p2 pos pos2 : Pos} (hg : isGl sc "list" = true) (hg2 : isGl sc "range" = true) (hz : notStar z = true) (ha : PA X [z] (TAv κ Γ gl X.K es)) :
    SndE κ Γ gl X t (.bi .listRange es) (.Call (.Name "list" p) [.Call (.Name "range" p2) [z] [] pos2] [] pos) :=
  snd_plain (PE.imp (pe_listRg G.calm (G.gl' hg) (G.blt (by decide)) (prg_A (G.gl' hg2) (G.blt (by decide)) ha (star_no hz [] X.env)) rfl) fun σ H Q q => bi_run (r := fun vs H1 Q => ∃ n : Int, vs = [.int n] ∧ RgOk 0 n ∧ ∀ q, H1 q = none → Q (.ref q) (upd H1 q (.lst (rgV 0 n))))
    (fun F ρ F2 ρ2 H2 ds vs w s e h Y => bi_listRange s e h Y) q) rfl
theorem s_tupleRange (G : Good κ Γ nm gl L N X sc fp) {t : Bool} {es : List E} {z : Expr} {p p2 pos pos2 : Pos} (hg : isGl sc "tuple" = true) (hg2 : isGl sc "range" = true) (hz : notStar z = true) (ha : PA X [z] (TAv κ Γ gl X.K es)) :
    SndE κ Γ gl X t (.bi .tupleRange es) (.Call (.Name "tuple" p) [.Call (.Name "range" p2) [z] [] pos2] [] pos) :=
  snd_plain (PE.imp (pe_tupRgF G.calm (G.gl' hg) (G.blt (by decide)) (prg_A (G.gl' hg2) (G.blt (by decide)) ha (star_no hz [] X.env)) rfl) fun σ H Q q => bi_run (r := fun vs H1 Q => ∃ n : Int, vs = [.int n] ∧ RgOk 0 n ∧ newT (rgV 0 n) H1 Q)
    (fun F ρ F2 ρ2 H2 ds vs w s e h Y => bi_tupleRange s e h Y) q) rfl
theorem s_bm (G : Good κ Γ nm gl L N X sc fp) {t : Bool} {m : Bm} {o e1 : E} {x y : Expr} {n : Str} {apos pos : Pos} (hn : n = bmName m) (h1 : ∀ ρ, evEs Γ gl [e1] ρ = bnd2 (evE Γ gl e1 ρ) fun p ρ1 => bnd2 (evEs Γ gl [] ρ1) fun ps ρ2 => some (p :: ps, ρ2))
    (ho : PE X x (TEv κ Γ gl X.K o)) (he : PE X y (TEv κ Γ gl X.K e1)) (hy : notStar y = true) (hx : notCall x = true) (hl : (apos.endLine == pos.line) = true) (hm : plainBm m = true) :
    SndE κ Γ gl X t (.bm m o [e1]) (.Call (.Attribute x n apos) [y] [] pos) := by
  subst hn
  have hs := star_no hy [] X.env
  cases m with
  | join => exact snd_plain (PE.imp (pe_join ho he hs (base_no hx _ _ _) hl) fun σ H Q q => bm_run h1 (fun d ds w e => by cases d <;> first | exact ⟨_, rfl⟩ | cases e) (fun F ρ F1 H1 F2 ρ2 H2 d ds v vs w s e hd h Y => bm_join s e hd h Y) q) rfl
  | split => exact snd_plain (PE.imp (pe_split ho he hs (base_no hx _ _ _) hl) fun σ H Q q => bm_run h1 (fun d ds w e => by cases d <;> first | exact ⟨_, rfl⟩ | cases e) (fun F ρ F1 H1 F2 ρ2 H2 d ds v vs w s e hd h Y => bm_split s e hd h Y) q) rfl
  | startswith => exact snd_plain (PE.imp (pe_m1 PySem.F.slot_str_startswith PySem.F.type_str_startswith mt_startswith ho he hs (base_no hx _ _ _) hl) fun σ H Q q => bm_run h1 (fun d ds w e => by cases d <;> first | exact ⟨_, rfl⟩ | cases e) (fun F ρ F1 H1 F2 ρ2 H2 d ds v vs w s e hd h Y => bm_starts s e hd h Y) q) rfl
  | endswith => exact snd_plain (PE.imp (pe_m1 PySem.F.slot_str_endswith PySem.F.type_str_endswith mt_endswith ho he hs (base_no hx _ _ _) hl) fun σ H Q q => bm_run h1 (fun d ds w e => by cases d <;> first | exact ⟨_, rfl⟩ | cases e) (fun F ρ F1 H1 F2 ρ2 H2 d ds v vs w s e hd h Y => bm_ends s e hd h Y) q) rfl
  | _ => cases hm
theorem s_popAt (G : Good κ Γ nm gl L N X sc fp) {t : Bool} {i : Nat} {e1 : E} {y : Expr} {n : Str} {npos apos pos : Pos} (hN : N[i]? = some n) (hv : isVis sc n = true) (hok : okName n = true) (he : PE X y (TEv κ Γ gl X.K e1)) (hy : notStar y = true) (hl : (apos.endLine == pos.line) = true) :
    SndE κ Γ gl X t (.popAt i e1) (.Call (.Attribute (.Name n npos) "pop" apos) [y] [] pos) := by
  have ho : PE X (.Name n npos) (tVar i) := pe_var (by rw [G.hN]; exact hN) (G.vis hv) (okName_1 hok) (okName_2 hok)
  have hs := star_no hy [] X.env
  have few : ((backTo pos (starEach [y] X.env)).all (fun x => !x.1) && (backToKw pos (keywordEach [] X.env)).all (fun x => x.1.isSome)
      && decide ([y].length + ([] : List Keyword).length + (if ([] : List Keyword).isEmpty then 0 else 1) < 30)) = true := by rw [hs]; rfl
  refine snd_plain (PE.imp (pe_bm PySem.F.plainAttrs_list PySem.F.slot_list_pop PySem.F.type_list_pop (show MtR X "list.pop" rPopAt from mt_popAt) ho (pa_cons he pa_nil hs) (base_no rfl _ _ _) few hl hs rfl) fun σ H Q q => ?_) rfl
  obtain ⟨F, ρ, p, ρ', rel, e, Y⟩ := q
  unfold evE at e
  obtain ⟨w0, g1, e⟩ := bnd1_of e
  obtain ⟨l0, g2, e⟩ := bnd1_of e
  obtain ⟨p1, ρ1, h1, e⟩ := bnd2_of e
  obtain ⟨d, g3, e⟩ := bnd1_of e
  obtain ⟨k, g4, e⟩ := bnd1_of e
  obtain ⟨w, g5, e⟩ := bnd1_of e
  obtain ⟨ds, g6, e⟩ := bnd1_of e
  obtain ⟨c, e⟩ := req_of e
  obtain ⟨d', g7, e⟩ := bnd1_of e
  cases e
  rw [ownW_of g2] at g1
  rw [ownW_of g6] at g5
  rw [intD_of g4] at g3
  simp only [Bool.and_eq_true, decide_eq_true_eq] at c
  obtain ⟨v0, z1, a0, us0, z2, z3, _⟩ := rel.slot i _ (slot_get g1)
  subst z2
  refine ⟨_, z1, .inl ⟨rfl, us0, SqL.of z3⟩, ?_⟩
  refine one (R := fun u H2 => rPopAt (.ref a0) [u] H2 Q) rel h1 fun F1 H1 u s1 r1 => ?_
  obtain ⟨v, y1, a, us, y2, y3, y4, y5⟩ := s1.rel.slot i _ (slot_get g5)
  rw [z1] at y1
  cases y1
  cases y2
  obtain ⟨x, x1, x2⟩ := y5.get g7
  obtain ⟨hlt, _⟩ := List.getElem?_eq_some_iff.mp x1
  refine ⟨a0, us, k, k.toNat, x, rfl, by rw [repQ_int (getQ_rep (K := X.K) s1.rel r1 g3)], y3, by omega, by omega, seqIndex_of c.1 (by omega), x1, ?_⟩
  exact Y F1 _ x (s1.change (slot_get g5) z1 (y5.eraseIdx _)) x2

theorem tYes_ok {σ : L2.St} {H : Hp} {Q : Bool → Hp → Prop} (q : TTv κ Γ gl X.K .nil σ H Q) : tYes σ H Q := by
  obtain ⟨F, ρ, b, ρ', rel, e, k⟩ := q
  obtain ⟨p, e, hp⟩ := tst_of e
  unfold evE at e
  cases e
  cases hp
  exact k F H (.refl rel)
def isStar : E → Bool
  | .star _ => true | _ => false
theorem evEs_cons {e : E} (h : isStar e = false) (es : List E) (ρ : Ro) : evEs Γ gl (e :: es) ρ = bnd2 (evE Γ gl e ρ) fun p ρ1 => bnd2 (evEs Γ gl es ρ1) fun ps ρ2 => some (p :: ps, ρ2) := by
  cases e <;> first
    | rfl
    | cases h
theorem evEs_two {e1 e2 : E} (h1 : isStar e1 = false) (h2 : isStar e2 = false) (ρ : Ro) : evEs Γ gl [e1, e2] ρ = bnd2 (evE Γ gl e1 ρ) fun p ρ1 => bnd2 (evE Γ gl e2 ρ1) fun q ρ2 => some ([p, q], ρ2) := by
  rw [evEs_cons h1]
  congr 1
  funext p ρ1
  rw [evEs_cons h2]
  cases evE Γ gl e2 ρ1 with
  | none => rfl
  | some q => rfl
theorem isT_of_isInt {d : D} {w : W} (e : biRun .isInt [d] = some w) : ∃ t, tyD d = some t ∧ w = .val (.bl t.1) := by
  have e : (bnd1 (tyD d) fun t => some (W.val (.bl t.1))) = some w := e
  obtain ⟨t, e1, e2⟩ := bnd1_of e
  cases e2
  exact ⟨t, e1, rfl⟩
theorem isT_of_isBool {d : D} {w : W} (e : biRun .isBool [d] = some w) : ∃ t, tyD d = some t ∧ w = .val (.bl t.2.1) := by
  have e : (bnd1 (tyD d) fun t => some (W.val (.bl t.2.1))) = some w := e
  obtain ⟨t, e1, e2⟩ := bnd1_of e
  cases e2
  exact ⟨t, e1, rfl⟩
theorem isT_of_isStr {d : D} {w : W} (e : biRun .isStr [d] = some w) : ∃ t, tyD d = some t ∧ w = .val (.bl t.2.2.1) := by
  have e : (bnd1 (tyD d) fun t => some (W.val (.bl t.2.2.1))) = some w := e
  obtain ⟨t, e1, e2⟩ := bnd1_of e
  cases e2
  exact ⟨t, e1, rfl⟩
theorem isT_of_isTuple {d : D} {w : W} (e : biRun .isTuple [d] = some w) : ∃ t, tyD d = some t ∧ w = .val (.bl t.2.2.2) := by
  have e : (bnd1 (tyD d) fun t => some (W.val (.bl t.2.2.2))) = some w := e
  obtain ⟨t, e1, e2⟩ := bnd1_of e
  cases e2
  exact ⟨t, e1, rfl⟩
theorem agEs_cons {e : E} (h : isStar e = false) (es : List E) (x : Expr) (xs : List Expr) : agEs N nm sc fp (e :: es) (x :: xs) = (agE N nm sc fp false e x && notStar x && agEs N nm sc fp es xs) := by
  cases e <;> first
    | rfl
    | cases h
theorem agE_star (e : E) (x : Expr) : agE N nm sc fp false (.star e) x = false := rfl
theorem agEs_star_no {y : Expr} (h : notStar y = true) (e : E) (es : List E) (ys : List Expr) : agEs N nm sc fp (.star e :: es) (y :: ys) = false := by
  cases y <;> first
    | exact (show (agE N nm sc fp false (.star e) _ && _ && _) = false from by rw [agE_star]; rfl)
    | cases h
theorem agEs_no (e : E) (es : List E) : agEs N nm sc fp (e :: es) [] = false := by
  cases e <;> rfl
theorem agO_no {e : E} {x : Option Expr} (h : agO N nm sc fp e x = true) : (e = .nil ∧ x = none) ∨ ∃ e' y, e = .seq e' ∧ x = some y ∧ agE N nm sc fp false e' y = true := by
  cases e <;> cases x <;> first
    | exact .inl ⟨rfl, rfl⟩
    | exact .inr ⟨_, _, rfl, rfl, h⟩
    | cases h
theorem agFs_fmt (e : E) (es : List E) (y : Expr) (k : Int) (pos : Pos) (xs : List Expr) : agFs N nm sc fp (e :: es) (.FormattedValue y k none pos :: xs) = (decide (k = -1) && agE N nm sc fp false e y && agFs N nm sc fp es xs) := by
  first
    | rfl
    | (cases e <;> first
        | rfl
        | (rename_i d; cases d <;> rfl))
end
section
variable {κ : Cs} {Γ : Nat → Option Fn} {nm : Nm} {gl : Str → Option D} {L : Nat} {N : List Str}
mutual
theorem sndE : ∀ (e : E) (X : Cx) (sc : Scope) (fp : Str → Bool) (t : Bool) (x : Expr), Good κ Γ nm gl L N X sc fp → agE N nm sc fp t e x = true → SndE κ Γ gl X t e x
  | .nil, X, sc, fp, t, x, G, h => by unfold agE at h; cases h
  | .var i, X, sc, fp, t, x, G, h => s_var G h
  | .cst d, X, sc, fp, t, x, G, h => s_cst h
  | .glob n, X, sc, fp, t, x, G, h => s_glob G h
  | .tup es, X, sc, fp, t, x, G, h => by
    unfold agE at h
    cases x with
    | Tuple xs k pos => exact s_tup (sndEs es X sc fp xs G h)
    | _ => cases h
  | .lst es, X, sc, fp, t, x, G, h => by
    unfold agE at h
    cases x with
    | List xs pos => exact s_lst (sndEs es X sc fp xs G h)
    | _ => cases h
  | .star _, X, sc, fp, t, x, G, h => by unfold agE at h; cases h
  | .bin o a b, X, sc, fp, t, x, G, h => by
    unfold agE at h
    cases x with
    | BinOp p op q pos =>
      simp only [Bool.and_eq_true, decide_eq_true_eq] at h
      obtain ⟨⟨h1, h2⟩, h3⟩ := h
      subst h1
      exact s_bin (sndE a X sc fp false p G h2).pe (sndE b X sc fp false q G h3).pe
    | _ => cases h
  | .neg a, X, sc, fp, t, x, G, h => by
    unfold agE at h
    cases x with
    | UnaryOp op p pos =>
      cases op with
      | USub =>
        simp only [Bool.and_eq_true, Bool.not_eq_true'] at h
        exact ⟨fun _ => s_neg (sndE a X sc fp false p G h.2).pe, fun z => by rw [h.1] at z; cases z⟩
      | _ => cases h
    | _ => cases h
  | .cmp o a b, X, sc, fp, t, x, G, h => by
    unfold agE at h
    cases x with
    | Compare p ops qs pos =>
      match ops, qs, h with
      | [op], [q], h =>
        simp only [Bool.and_eq_true, decide_eq_true_eq] at h
        obtain ⟨⟨⟨h1, h2⟩, h3⟩, h4⟩ := h
        subst h1
        exact s_cmp (by have := G.room.un; omega) (sndE a X sc fp false p G h2).pe (sndE b X sc fp false q G h3).pe h4
    | _ => cases h
  | .chain o o2 a b c, X, sc, fp, t, x, G, h => by
    unfold agE at h
    cases x with
    | Compare p ops qs pos =>
      match ops, qs, h with
      | [op, op2], [q, r], h =>
        simp only [Bool.and_eq_true, decide_eq_true_eq] at h
        obtain ⟨⟨⟨⟨⟨h1, h2⟩, h3⟩, h4⟩, h5⟩, h6⟩ := h
        subst h1 h2
        exact s_chain (by have := G.room.un; omega) (sndE a X sc fp false p G h3).pe (sndE b X sc fp false q G h4).pe (sndE c X sc fp false r G h5).pe (mark_no h6 _)
    | _ => cases h
  | .and a b, X, sc, fp, t, x, G, h => by
    unfold agE at h
    cases x with
    | BoolOp op vs pos =>
      match op, vs, h with
      | .And, [p, q], h =>
        simp only [Bool.and_eq_true] at h
        exact s_and _ rfl (sndE a X sc fp t p G h.1) (sndE b X sc fp t q G h.2)
      | .And, p :: q :: s :: r, h =>
        simp only [Bool.and_eq_true] at h
        exact s_and3 _ rfl (sndE a X sc fp t p G h.1) (sndE b X sc fp t _ G h.2)
    | _ => cases h
  | .or a b, X, sc, fp, t, x, G, h => by
    unfold agE at h
    cases x with
    | BoolOp op vs pos =>
      match op, vs, h with
      | .Or, [p, q], h =>
        simp only [Bool.and_eq_true] at h
        exact s_or _ rfl (sndE a X sc fp t p G h.1) (sndE b X sc fp t q G h.2)
      | .Or, p :: q :: s :: r, h =>
        simp only [Bool.and_eq_true] at h
        exact s_or3 _ rfl (sndE a X sc fp t p G h.1) (sndE b X sc fp t _ G h.2)
    | _ => cases h
  | .not a, X, sc, fp, t, x, G, h => by
    unfold agE at h
    cases x with
    | UnaryOp op p pos =>
      cases op with
      | Not => exact s_not (sndE a X sc fp t p G h)
      | _ => cases h
    | _ => cases h
  | .ife c a b, X, sc, fp, t, x, G, h => by
    unfold agE at h
    cases x with
    | IfExp p q r pos =>
      simp only [Bool.and_eq_true, Bool.not_eq_true'] at h
      obtain ⟨⟨⟨h1, h2⟩, h3⟩, h4⟩ := h
      exact ⟨fun _ => s_ife (sndE c X sc fp true p G h2).pt (sndE a X sc fp false q G h3).pe (sndE b X sc fp false r G h4).pe, fun z => by rw [h1] at z; cases z⟩
    | _ => cases h
  | .ix a b, X, sc, fp, t, x, G, h => by
    unfold agE at h
    cases x with
    | Subscript p q pos =>
      simp only [Bool.and_eq_true] at h
      exact s_ix (by have := G.room.un; omega) (sndE a X sc fp false p G h.1.1).pe (sndE b X sc fp false q G h.1.2).pe h.2
    | _ => cases h
  | .sl a lo hi, X, sc, fp, t, x, G, h => by
    unfold agE at h
    cases x with
    | Subscript p q pos =>
      cases q with
      | Slice l u st p2 =>
        cases st with
        | none =>
          simp only [Bool.and_eq_true] at h
          exact s_sl (sndE a X sc fp false p G h.1.1).pe (sndO lo X sc fp l G h.1.2) (sndO hi X sc fp u G h.2)
        | some _ => cases h
      | _ => cases h
    | _ => cases h
  | .rev a, X, sc, fp, t, x, G, h => by
    unfold agE at h
    split at h
    · simp only [Bool.and_eq_true, decide_eq_true_eq] at h
      obtain ⟨h1, h2⟩ := h
      subst h1
      exact s_rev (sndE a X sc fp false _ G h2).pe
    · cases h
  | .fld c f a, X, sc, fp, t, x, G, h => by
    unfold agE at h
    split at h
    · simp only [Bool.and_eq_true, decide_eq_true_eq] at h
      exact s_fld G h.1.1 (sndE a X sc fp false _ G h.1.2).pe h.2
    · cases h
  | .call f es, X, sc, fp, t, x, G, h => by
    unfold agE at h
    split at h
    · cases hk : nm.kd f with
      | def_ n' =>
        rw [hk] at h
        simp only [Bool.and_eq_true, decide_eq_true_eq] at h
        obtain ⟨⟨⟨⟨h1, h2⟩, h3⟩, h4⟩, h5⟩ := h
        subst h1
        exact s_call G hk h2 h3 (sndEs es X sc fp _ G h4) h5
      | _ => rw [hk] at h; cases h
    · cases h
  | .callm f e es, X, sc, fp, t, x, G, h => by
    unfold agE at h
    cases hk : nm.kd f with
    | prop c p =>
      rw [hk] at h
      dsimp only at h
      split at h
      · simp only [Bool.and_eq_true, decide_eq_true_eq] at h
        obtain ⟨⟨⟨h1, h2⟩, h3⟩, h4⟩ := h
        have P := sndE e X sc fp false _ G h2
        cases es with
        | nil => exact s_prop G hk h1 P.pe h3
        | cons _ _ => cases h4
      · cases h
    | meth c m =>
      rw [hk] at h
      dsimp only at h
      split at h
      · simp only [Bool.and_eq_true, decide_eq_true_eq] at h
        obtain ⟨⟨⟨⟨⟨⟨h1, h2⟩, h3⟩, h4⟩, h5⟩, h6⟩, h7⟩ := h
        exact s_meth G hk h1 (sndE e X sc fp false _ G h2).pe (sndEs es X sc fp _ G h3) h4 h5 h6 h7
      · cases h
    | item c =>
      rw [hk] at h
      dsimp only at h
      split at h
      · simp only [Bool.and_eq_true] at h
        obtain ⟨⟨⟨h1, h2⟩, h3⟩, h4⟩ := h
        have P := sndE e X sc fp false _ G h1
        obtain ⟨e1, rfl, hs, P1⟩ := snd1 es X sc fp _ G h2 h4
        exact s_item G hk (fun ρ => evEs_cons hs [] ρ) P.pe P1.pe h3
      · cases h
    | len c =>
      rw [hk] at h
      dsimp only at h
      split at h
      · simp only [Bool.and_eq_true, decide_eq_true_eq] at h
        obtain ⟨⟨⟨⟨h1, h2⟩, h3⟩, h4⟩, h5⟩ := h
        subst h1
        have P := sndE e X sc fp false _ G h3
        cases es with
        | nil => exact s_lenO G hk h2 P.pe h4
        | cons _ _ => cases h5
      · cases h
    | clsm c m =>
      rw [hk] at h
      dsimp only at h
      split at h
      · simp only [Bool.and_eq_true, decide_eq_true_eq] at h
        obtain ⟨⟨⟨⟨⟨h1, h2⟩, h3⟩, h4⟩, h5⟩, h6⟩ := h
        exact s_clsm G hk h1 (sndE e X sc fp false _ G h2).pe (sndEs es X sc fp _ G h3) h4 h5 h6
      · cases h
    | mk c =>
      rw [hk] at h
      dsimp only at h
      split at h
      · simp only [Bool.and_eq_true] at h
        obtain ⟨⟨h1, h2⟩, h3⟩ := h
        exact s_mk G hk (sndE e X sc fp false _ G h1).pe (sndEs es X sc fp _ G h2) h3
      · cases h
    | callo c =>
      rw [hk] at h
      dsimp only at h
      split at h
      · simp only [Bool.and_eq_true] at h
        obtain ⟨⟨h1, h2⟩, h3⟩ := h
        exact s_callo G hk (sndE e X sc fp false _ G h1).pe (sndEs es X sc fp _ G h2) h3
      · cases h
    | opadd c =>
      rw [hk] at h
      dsimp only at h
      split at h
      · simp only [Bool.and_eq_true] at h
        obtain ⟨⟨h1, h2⟩, h3⟩ := h
        have P := sndE e X sc fp false _ G h1
        obtain ⟨e1, rfl, hs, P1⟩ := snd1 es X sc fp _ G h2 h3
        exact s_add G hk (fun ρ => evEs_cons hs [] ρ) P.pe P1.pe
      · cases h
    | _ => rw [hk] at h; cases h
  | .bi b es, X, sc, fp, t, x, G, h => by
    unfold agE at h
    split at h
    · rename_i n p y ys pos
      rw [Bool.and_eq_true] at h
      obtain ⟨h, hg⟩ := h
      have gen : plainBi b = true → (b = .repr → nm.gb = true) → n = biName b → agEs N nm sc fp es (y :: ys) = true → (y :: ys).all notStar = true → SndE κ Γ gl X t (.bi b es) (.Call (.Name n p) (y :: ys) [] pos) := fun hb hgb hn h1 h2 =>
        s_bi G hg h2 (sndEs es X sc fp _ G h1) hn hb hgb
      cases b with
      | listRange =>
        simp only [Bool.and_eq_true, decide_eq_true_eq] at h
        obtain ⟨⟨h1, h2⟩, h3⟩ := h
        split at h3
        · simp only [Bool.and_eq_true, decide_eq_true_eq] at h3
          obtain ⟨⟨h4, h5⟩, h6⟩ := h3
          subst h1 h4
          exact s_listRange G hg h2 h6 (sndEs es X sc fp _ G h5)
        · cases h3
      | tupleRange =>
        simp only [Bool.and_eq_true, decide_eq_true_eq] at h
        obtain ⟨⟨h1, h2⟩, h3⟩ := h
        split at h3
        · simp only [Bool.and_eq_true, decide_eq_true_eq] at h3
          obtain ⟨⟨h4, h5⟩, h6⟩ := h3
          subst h1 h4
          exact s_tupleRange G hg h2 h6 (sndEs es X sc fp _ G h5)
        · cases h3
      | lenSet =>
        simp only [Bool.and_eq_true, decide_eq_true_eq] at h
        obtain ⟨⟨h1, h2⟩, h3⟩ := h
        split at h3
        · simp only [Bool.and_eq_true, decide_eq_true_eq] at h3
          obtain ⟨⟨h4, h5⟩, h6⟩ := h3
          subst h1 h4
          obtain ⟨e1, rfl, hs, P⟩ := snd1 es X sc fp _ G h5 h6
          exact s_lenSet G (fun ρ => evEs_cons hs [] ρ) hg h2 P.pe h6
        · cases h3
      | dictOf =>
        simp only [Bool.and_eq_true, decide_eq_true_eq] at h
        obtain ⟨⟨h1, h2⟩, h3⟩ := h
        subst h1
        exact s_dictOf G hg h3 (sndEs es X sc fp _ G h2)
      | isInt =>
        simp only [Bool.and_eq_true, decide_eq_true_eq] at h
        obtain ⟨⟨h1, h2⟩, h3⟩ := h
        split at h3
        · simp only [Bool.and_eq_true, decide_eq_true_eq] at h3
          obtain ⟨⟨h4, h5⟩, h6⟩ := h3
          subst h1 h4
          obtain ⟨e1, rfl, hs, P⟩ := snd1 es X sc fp _ G h5 h6
          exact s_isT (T := "int") (sel := fun t => t.1) G (fun ρ => evEs_cons hs [] ρ) (fun d w e => isT_of_isInt e) (fun F H d v t le r e => by
            obtain ⟨T, z, a, b, c, d⟩ := ty_ok le r e
            exact ⟨T, z, a⟩) hg h2 (G.blt (by decide)) rfl (by decide) (by decide) P.pe h6
        · cases h3
      | isBool =>
        simp only [Bool.and_eq_true, decide_eq_true_eq] at h
        obtain ⟨⟨h1, h2⟩, h3⟩ := h
        split at h3
        · simp only [Bool.and_eq_true, decide_eq_true_eq] at h3
          obtain ⟨⟨h4, h5⟩, h6⟩ := h3
          subst h1 h4
          obtain ⟨e1, rfl, hs, P⟩ := snd1 es X sc fp _ G h5 h6
          exact s_isT (T := "bool") (sel := fun t => t.2.1) G (fun ρ => evEs_cons hs [] ρ) (fun d w e => isT_of_isBool e) (fun F H d v t le r e => by
            obtain ⟨T, z, a, b, c, d⟩ := ty_ok le r e
            exact ⟨T, z, b⟩) hg h2 (G.blt (by decide)) rfl (by decide) (by decide) P.pe h6
        · cases h3
      | isStr =>
        simp only [Bool.and_eq_true, decide_eq_true_eq] at h
        obtain ⟨⟨h1, h2⟩, h3⟩ := h
        split at h3
        · simp only [Bool.and_eq_true, decide_eq_true_eq] at h3
          obtain ⟨⟨h4, h5⟩, h6⟩ := h3
          subst h1 h4
          obtain ⟨e1, rfl, hs, P⟩ := snd1 es X sc fp _ G h5 h6
          exact s_isT (T := "str") (sel := fun t => t.2.2.1) G (fun ρ => evEs_cons hs [] ρ) (fun d w e => isT_of_isStr e) (fun F H d v t le r e => by
            obtain ⟨T, z, a, b, c, d⟩ := ty_ok le r e
            exact ⟨T, z, c⟩) hg h2 (G.blt (by decide)) rfl (by decide) (by decide) P.pe h6
        · cases h3
      | isTuple =>
        simp only [Bool.and_eq_true, decide_eq_true_eq] at h
        obtain ⟨⟨h1, h2⟩, h3⟩ := h
        split at h3
        · simp only [Bool.and_eq_true, decide_eq_true_eq] at h3
          obtain ⟨⟨h4, h5⟩, h6⟩ := h3
          subst h1 h4
          obtain ⟨e1, rfl, hs, P⟩ := snd1 es X sc fp _ G h5 h6
          exact s_isT (T := "tuple") (sel := fun t => t.2.2.2) G (fun ρ => evEs_cons hs [] ρ) (fun d w e => isT_of_isTuple e) (fun F H d v t le r e => by
            obtain ⟨T, z, a, b, c, d⟩ := ty_ok le r e
            exact ⟨T, z, d⟩) hg h2 (G.blt (by decide)) rfl (by decide) (by decide) P.pe h6
        · cases h3
      | isIns c =>
        simp only [Bool.and_eq_true, decide_eq_true_eq] at h
        obtain ⟨⟨⟨⟨h1, h2⟩, h2b⟩, h2c⟩, h3⟩ := h
        split at h3
        · simp only [Bool.and_eq_true, decide_eq_true_eq] at h3
          obtain ⟨⟨h4, h5⟩, h6⟩ := h3
          subst h1 h4
          obtain ⟨e1, rfl, hs, P⟩ := snd1 es X sc fp _ G h5 h6
          exact s_isIns G (fun ρ => evEs_cons hs [] ρ) h2c hg h2 h2b P.pe h6
        · cases h3
      | len => (simp only [Bool.and_eq_true, decide_eq_true_eq] at h; exact gen rfl (fun z => nomatch z) h.1.1 h.1.2 h.2)
      | tuple => (simp only [Bool.and_eq_true, decide_eq_true_eq] at h; exact gen rfl (fun z => nomatch z) h.1.1 h.1.2 h.2)
      | list => (simp only [Bool.and_eq_true, decide_eq_true_eq] at h; exact gen rfl (fun z => nomatch z) h.1.1 h.1.2 h.2)
      | all => (simp only [Bool.and_eq_true, decide_eq_true_eq] at h; exact gen rfl (fun z => nomatch z) h.1.1 h.1.2 h.2)
      | any => (simp only [Bool.and_eq_true, decide_eq_true_eq] at h; exact gen rfl (fun z => nomatch z) h.1.1 h.1.2 h.2)
      | str => (simp only [Bool.and_eq_true, decide_eq_true_eq] at h; exact gen rfl (fun z => nomatch z) h.1.1 h.1.2 h.2)
      | repr => (simp only [Bool.and_eq_true, decide_eq_true_eq] at h; exact gen rfl (fun _ => h.1.1.1) h.1.1.2 h.1.2 h.2)
      | max2 => (simp only [Bool.and_eq_true, decide_eq_true_eq] at h; exact gen rfl (fun z => nomatch z) h.1.1 h.1.2 h.2)
      | min2 => (simp only [Bool.and_eq_true, decide_eq_true_eq] at h; exact gen rfl (fun z => nomatch z) h.1.1 h.1.2 h.2)
      | min => (simp only [Bool.and_eq_true, decide_eq_true_eq] at h; exact gen rfl (fun z => nomatch z) h.1.1 h.1.2 h.2)
      | _ => cases h
    · rename_i n p n' apos y z pos
      cases b with
      | kget c t =>
        simp only [Bool.and_eq_true, decide_eq_true_eq, Bool.not_eq_true'] at h
        obtain ⟨⟨⟨⟨⟨⟨⟨⟨⟨h1, h2⟩, h3⟩, h4⟩, h5⟩, h6⟩, h7⟩, h8⟩, h9⟩, h10⟩ := h
        subst h1 h2
        obtain ⟨e1, e2, rfl, hs1, hs2, P1, P2⟩ := snd2 es X sc fp _ _ G h7 h8 h9
        exact s_kget G h5 (fun z => by rw [z] at h6; cases h6) h3 h4 (fun ρ => evEs_two hs1 hs2 ρ) P1.pe P2.pe h8 h9 h10
      | _ => cases h
    · cases h
  | .bm m o es, X, sc, fp, t, x, G, h => by
    unfold agE at h
    split at h
    · rename_i p n apos y z pos
      simp only [Bool.and_eq_true, decide_eq_true_eq] at h
      obtain ⟨⟨⟨⟨⟨⟨⟨h1, h2⟩, h3⟩, h4⟩, h5⟩, h6⟩, h7⟩, h8⟩ := h
      have P := sndE o X sc fp false p G h3
      obtain ⟨e1, e2, rfl, hs1, hs2, P1, P2⟩ := snd2 es X sc fp _ _ G h4 h5 h6
      cases m with
      | get => exact s_get G h2 (fun ρ => evEs_two hs1 hs2 ρ) P.pe P1.pe P2.pe h5 h6 h7 h8
      | _ => cases h1
    · rename_i p n apos y ys pos _
      simp only [Bool.and_eq_true, decide_eq_true_eq] at h
      obtain ⟨⟨⟨⟨⟨⟨⟨h1, h2⟩, h3⟩, h4⟩, h5⟩, h6⟩, h7⟩, h8⟩ := h
      have P := sndE o X sc fp false p G h3
      cases ys with
      | nil =>
        obtain ⟨e1, rfl, hs, P1⟩ := snd1 es X sc fp _ G h4 h6
        exact s_bm G h2 (fun ρ => evEs_cons hs [] ρ) P.pe P1.pe h6 h7 h8 (by cases m <;> first | rfl | cases h1)
      | cons _ _ => cases h5
    · cases h
  | .signs e1, X, sc, fp, t, x, G, h => by
    unfold agE at h
    split at h
    · simp only [Bool.and_eq_true, decide_eq_true_eq] at h
      obtain ⟨⟨⟨h1, h2⟩, h3⟩, h4⟩ := h
      subst h1
      exact s_signs G h2 (sndE e1 X sc fp false _ G h3).pe h4
    · cases h
  | .popAt i e1, X, sc, fp, t, x, G, h => by
    unfold agE at h
    split at h
    · simp only [Bool.and_eq_true, decide_eq_true_eq] at h
      obtain ⟨⟨⟨⟨⟨⟨h1, h2⟩, h3⟩, h4⟩, h5⟩, h6⟩, h7⟩ := h
      subst h4
      exact s_popAt G h1 h2 h3 (sndE e1 X sc fp false _ G h5).pe h6 h7
    · cases h
  | .comp elt g it c own, X, sc, fp, t, x, G, h => by
    unfold agE at h
    split at h
    · rename_i y tg iter ifs a scope pos
      simp only [Bool.and_eq_true, decide_eq_true_eq] at h
      obtain ⟨⟨⟨⟨⟨⟨⟨h1, h2⟩, h3⟩, h4⟩, h5⟩, h6⟩, h7⟩, h8⟩ := h
      subst h1
      refine s_comp G (sndI it X sc fp iter tg G h2) h3 h4 h5 h6 (fun X' G' => ?_) fun X' G' => (sndE elt X' _ _ false y G' h8).pe
      match ifs, h7 with
      | [], h7 =>
        cases c with
        | nil => exact ⟨fun pins s σ H Q I q => pts_nil.run pins s σ H Q I (tYes_ok q)⟩
        | _ => cases h7
      | [z], h7 => exact pts_one (sndE c X' _ _ true z G' h7).pt
    · cases h
  | .comp2 elt g it c own g1 it1 c1 own1, X, sc, fp, t, x, G, h => by
    unfold agE at h
    split at h
    · rename_i y tg iter ifs a tg1 iter1 ifs1 a1 scope pos
      simp only [Bool.and_eq_true, decide_eq_true_eq] at h
      obtain ⟨⟨⟨⟨⟨⟨⟨⟨⟨⟨⟨⟨⟨⟨h1, h2⟩, h3⟩, h4⟩, h5⟩, h6⟩, h7⟩, h8⟩, h9⟩, h10⟩, h11⟩, h12⟩, h13⟩, h14⟩, h15⟩ := h
      subst h1
      subst h2
      refine s_comp2 G (sndI it X sc fp iter tg G h3) h4 h5 h6 h7 h8 h9 h10 h11 (fun X' G' => sndI it1 X' _ _ iter1 tg1 G' h12) (fun X' G' => ?_) (fun X' G' => ?_) fun X' G' => (sndE elt X' _ _ false y G' h15).pe
      · match ifs, h13 with
        | [], h13 =>
          cases c with
          | nil => exact ⟨fun pins s σ H Q I q => pts_nil.run pins s σ H Q I (tYes_ok q)⟩
          | _ => cases h13
        | [z], h13 => exact pts_one (sndE c X' _ _ true z G' h13).pt
      · match ifs1, h14 with
        | [], h14 =>
          cases c1 with
          | nil => exact ⟨fun pins s σ H Q I q => pts_nil.run pins s σ H Q I (tYes_ok q)⟩
          | _ => cases h14
        | [z], h14 => exact pts_one (sndE c1 X' _ _ true z G' h14).pt
    · cases h
  | .fstr es, X, sc, fp, t, x, G, h => by
    unfold agE at h
    split at h
    · obtain ⟨ts, h1, h2⟩ := sndFs es X sc fp _ G h
      exact s_fstr h1 h2
    · cases h
  | .seq _, X, sc, fp, t, x, G, h => by unfold agE at h; cases h
  | .rng1 _, X, sc, fp, t, x, G, h => by unfold agE at h; cases h
  | .rng2 _ _, X, sc, fp, t, x, G, h => by unfold agE at h; cases h
  | .zip _ _, X, sc, fp, t, x, G, h => by unfold agE at h; cases h
  | .enum _, X, sc, fp, t, x, G, h => by unfold agE at h; cases h
theorem sndEs : ∀ (es : List E) (X : Cx) (sc : Scope) (fp : Str → Bool) (xs : List Expr), Good κ Γ nm gl L N X sc fp → agEs N nm sc fp es xs = true → PA X xs (TAv κ Γ gl X.K es)
  | [], X, sc, fp, [], G, h => a_nil
  | [], X, sc, fp, _ :: _, G, h => by unfold agEs at h; cases h
  | .star e :: es, X, sc, fp, x :: xs, G, h => by
    cases x with
    | Starred y pos =>
      unfold agEs at h
      simp only [Bool.and_eq_true] at h
      exact a_star (sndE e X sc fp false y G h.1).pe (sndEs es X sc fp xs G h.2)
    | _ => unfold agEs at h; unfold agE at h; simp at h
  | e :: es, X, sc, fp, [], G, h => by cases e <;> (unfold agEs at h; cases h)
  | e :: es, X, sc, fp, x :: xs, G, h => by
    cases hs : isStar e with
    | true =>
      cases e with
      | star e' =>
        cases x with
        | Starred y pos =>
          unfold agEs at h
          simp only [Bool.and_eq_true] at h
          exact a_star (sndE e' X sc fp false y G h.1).pe (sndEs es X sc fp xs G h.2)
        | _ => unfold agEs at h; unfold agE at h; simp at h
      | _ => cases hs
    | false =>
      rw [agEs_cons hs] at h
      simp only [Bool.and_eq_true] at h
      exact a_cons (evEs_cons hs es) h.1.2 (sndE e X sc fp false x G h.1.1).pe (sndEs es X sc fp xs G h.2)
theorem snd1 : ∀ (es : List E) (X : Cx) (sc : Scope) (fp : Str → Bool) (z : Expr), Good κ Γ nm gl L N X sc fp → agEs N nm sc fp es [z] = true → notStar z = true → ∃ e1, es = [e1] ∧ isStar e1 = false ∧ SndE κ Γ gl X false e1 z
  | [], X, sc, fp, z, G, h, hz => by unfold agEs at h; cases h
  | [e1], X, sc, fp, z, G, h, hz => by
    cases hs : isStar e1 with
    | true =>
      cases e1 <;> first
        | (rw [agEs_star_no hz] at h; cases h)
        | cases hs
    | false =>
      rw [agEs_cons hs] at h
      simp only [Bool.and_eq_true] at h
      exact ⟨e1, rfl, hs, sndE e1 X sc fp false z G h.1.1⟩
  | a :: b :: r, X, sc, fp, z, G, h, hz => by
    exfalso
    cases hs : isStar a with
    | false =>
      rw [agEs_cons hs] at h
      simp only [Bool.and_eq_true] at h
      have z := h.2
      rw [agEs_no] at z
      cases z
    | true =>
      cases a <;> first
        | (rw [agEs_star_no hz] at h; cases h)
        | cases hs
theorem snd2 : ∀ (es : List E) (X : Cx) (sc : Scope) (fp : Str → Bool) (y z : Expr), Good κ Γ nm gl L N X sc fp → agEs N nm sc fp es [y, z] = true → notStar y = true → notStar z = true → ∃ e1 e2, es = [e1, e2] ∧ isStar e1 = false ∧ isStar e2 = false ∧ SndE κ Γ gl X false e1 y ∧ SndE κ Γ gl X false e2 z
  | [], X, sc, fp, y, z, G, h, hy, hz => by unfold agEs at h; cases h
  | e1 :: r, X, sc, fp, y, z, G, h, hy, hz => by
    cases hs : isStar e1 with
    | true =>
      cases e1 <;> first
        | (rw [agEs_star_no hy] at h; cases h)
        | cases hs
    | false =>
      rw [agEs_cons hs] at h
      simp only [Bool.and_eq_true] at h
      have P := sndE e1 X sc fp false y G h.1.1
      obtain ⟨e2, er, hs2, P2⟩ := snd1 r X sc fp z G h.2 hz
      exact ⟨e1, e2, by rw [er], hs, hs2, P, P2⟩
theorem sndFs : ∀ (es : List E) (X : Cx) (sc : Scope) (fp : Str → Bool) (xs : List Expr), Good κ Γ nm gl L N X sc fp → agFs N nm sc fp es xs = true → ∃ ts, PJ X xs ts ∧ ∀ acc σ H Q, TFv κ Γ gl X.K es acc σ H Q → tJs ts acc σ H Q
  | [], X, sc, fp, [], G, h => ⟨[], .nil, fun acc σ H Q q => by
    obtain ⟨F, ρ, x, ρ', rel, e, k⟩ := q
    unfold evFs at e
    cases e
    exact k F H (.refl rel)⟩
  | [], X, sc, fp, _ :: _, G, h => by unfold agFs at h; cases h
  | e :: es, X, sc, fp, [], G, h => by
    first
      | (unfold agFs at h; cases h)
      | (cases e <;> first
          | (unfold agFs at h; cases h)
          | (rename_i d; cases d <;> (unfold agFs at h; cases h)))
  | e :: es, X, sc, fp, x :: xs, G, h => by
    cases x with
    | FormattedValue y k st pos =>
      cases st with
      | none =>
        rw [agFs_fmt] at h
        simp only [Bool.and_eq_true, decide_eq_true_eq] at h
        obtain ⟨⟨h1, h2⟩, h3⟩ := h
        subst h1
        obtain ⟨ts, q1, q2⟩ := sndFs es X sc fp xs G h3
        exact ⟨_, .cons (pe_fmt (sndE e X sc fp false y G h2).pe) q1, f_fmt q2⟩
      | some _ =>
        cases e <;> first
          | (unfold agFs at h; cases h)
          | (rename_i d; cases d <;> (unfold agFs at h; cases h))
    | Constant c k pos =>
      cases e with
      | cst d =>
        cases d with
        | str y =>
          cases c with
          | str z =>
            unfold agFs at h
            simp only [Bool.and_eq_true, decide_eq_true_eq] at h
            obtain ⟨h1, h2⟩ := h
            subst h1
            obtain ⟨ts, q1, q2⟩ := sndFs es X sc fp xs G h2
            exact ⟨_, .cons pe_str q1, f_cst q2⟩
          | _ => unfold agFs at h; cases h
        | _ => cases c <;> (unfold agFs at h; cases h)
      | _ => cases c <;> (unfold agFs at h; cases h)
    | _ =>
      cases e <;> first
        | (unfold agFs at h; cases h)
        | (rename_i d; cases d <;> (unfold agFs at h; cases h))
theorem sndO : ∀ (e : E) (X : Cx) (sc : Scope) (fp : Str → Bool) (x : Option Expr), Good κ Γ nm gl L N X sc fp → agO N nm sc fp e x = true → PO X x (TOv κ Γ gl X.K e)
  | .nil, X, sc, fp, none, G, h => o_none
  | .nil, X, sc, fp, some _, G, h => by rcases agO_no h with ⟨_, z⟩ | ⟨_, _, z, _⟩ <;> cases z
  | .seq e, X, sc, fp, some x, G, h => by unfold agO at h; exact o_some (sndE e X sc fp false x G h).pe
  | .seq e, X, sc, fp, none, G, h => by rcases agO_no h with ⟨z, _⟩ | ⟨_, _, _, z, _⟩ <;> cases z
  | .var _, X, sc, fp, x, G, h => by rcases agO_no h with ⟨z, _⟩ | ⟨_, _, z, _⟩ <;> cases z
  | .cst _, X, sc, fp, x, G, h => by rcases agO_no h with ⟨z, _⟩ | ⟨_, _, z, _⟩ <;> cases z
  | .glob _, X, sc, fp, x, G, h => by rcases agO_no h with ⟨z, _⟩ | ⟨_, _, z, _⟩ <;> cases z
  | .tup _, X, sc, fp, x, G, h => by rcases agO_no h with ⟨z, _⟩ | ⟨_, _, z, _⟩ <;> cases z
  | .lst _, X, sc, fp, x, G, h => by rcases agO_no h with ⟨z, _⟩ | ⟨_, _, z, _⟩ <;> cases z
  | .star _, X, sc, fp, x, G, h => by rcases agO_no h with ⟨z, _⟩ | ⟨_, _, z, _⟩ <;> cases z
  | .bin _ _ _, X, sc, fp, x, G, h => by rcases agO_no h with ⟨z, _⟩ | ⟨_, _, z, _⟩ <;> cases z
  | .neg _, X, sc, fp, x, G, h => by rcases agO_no h with ⟨z, _⟩ | ⟨_, _, z, _⟩ <;> cases z
  | .cmp _ _ _, X, sc, fp, x, G, h => by rcases agO_no h with ⟨z, _⟩ | ⟨_, _, z, _⟩ <;> cases z
  | .chain _ _ _ _ _, X, sc, fp, x, G, h => by rcases agO_no h with ⟨z, _⟩ | ⟨_, _, z, _⟩ <;> cases z
  | .and _ _, X, sc, fp, x, G, h => by rcases agO_no h with ⟨z, _⟩ | ⟨_, _, z, _⟩ <;> cases z
  | .or _ _, X, sc, fp, x, G, h => by rcases agO_no h with ⟨z, _⟩ | ⟨_, _, z, _⟩ <;> cases z
  | .not _, X, sc, fp, x, G, h => by rcases agO_no h with ⟨z, _⟩ | ⟨_, _, z, _⟩ <;> cases z
  | .ife _ _ _, X, sc, fp, x, G, h => by rcases agO_no h with ⟨z, _⟩ | ⟨_, _, z, _⟩ <;> cases z
  | .ix _ _, X, sc, fp, x, G, h => by rcases agO_no h with ⟨z, _⟩ | ⟨_, _, z, _⟩ <;> cases z
  | .sl _ _ _, X, sc, fp, x, G, h => by rcases agO_no h with ⟨z, _⟩ | ⟨_, _, z, _⟩ <;> cases z
  | .rev _, X, sc, fp, x, G, h => by rcases agO_no h with ⟨z, _⟩ | ⟨_, _, z, _⟩ <;> cases z
  | .fld _ _ _, X, sc, fp, x, G, h => by rcases agO_no h with ⟨z, _⟩ | ⟨_, _, z, _⟩ <;> cases z
  | .call _ _, X, sc, fp, x, G, h => by rcases agO_no h with ⟨z, _⟩ | ⟨_, _, z, _⟩ <;> cases z
  | .callm _ _ _, X, sc, fp, x, G, h => by rcases agO_no h with ⟨z, _⟩ | ⟨_, _, z, _⟩ <;> cases z
  | .bi _ _, X, sc, fp, x, G, h => by rcases agO_no h with ⟨z, _⟩ | ⟨_, _, z, _⟩ <;> cases z
  | .bm _ _ _, X, sc, fp, x, G, h => by rcases agO_no h with ⟨z, _⟩ | ⟨_, _, z, _⟩ <;> cases z
  | .signs _, X, sc, fp, x, G, h => by rcases agO_no h with ⟨z, _⟩ | ⟨_, _, z, _⟩ <;> cases z
  | .popAt _ _, X, sc, fp, x, G, h => by rcases agO_no h with ⟨z, _⟩ | ⟨_, _, z, _⟩ <;> cases z
  | .comp2 _ _ _ _ _ _ _ _ _, X, sc, fp, x, G, h => by rcases agO_no h with ⟨z, _⟩ | ⟨_, _, z, _⟩ <;> cases z
  | .comp _ _ _ _ _, X, sc, fp, x, G, h => by rcases agO_no h with ⟨z, _⟩ | ⟨_, _, z, _⟩ <;> cases z
  | .fstr _, X, sc, fp, x, G, h => by rcases agO_no h with ⟨z, _⟩ | ⟨_, _, z, _⟩ <;> cases z
  | .rng1 _, X, sc, fp, x, G, h => by rcases agO_no h with ⟨z, _⟩ | ⟨_, _, z, _⟩ <;> cases z
  | .rng2 _ _, X, sc, fp, x, G, h => by rcases agO_no h with ⟨z, _⟩ | ⟨_, _, z, _⟩ <;> cases z
  | .zip _ _, X, sc, fp, x, G, h => by rcases agO_no h with ⟨z, _⟩ | ⟨_, _, z, _⟩ <;> cases z
  | .enum _, X, sc, fp, x, G, h => by rcases agO_no h with ⟨z, _⟩ | ⟨_, _, z, _⟩ <;> cases z
theorem sndI : ∀ (e : E) (X : Cx) (sc : Scope) (fp : Str → Bool) (x tg : Expr), Good κ Γ nm gl L N X sc fp → agI N nm sc fp e x tg = true → PI X tg x (TIv κ Γ gl X.K e)
  | .seq e, X, sc, fp, x, tg, G, h => by unfold agI at h; exact i_seq (sndE e X sc fp false x G h).pe
  | .rng1 a, X, sc, fp, x, tg, G, h => by
    unfold agI at h
    split at h
    · simp only [Bool.and_eq_true, decide_eq_true_eq] at h
      obtain ⟨⟨⟨h1, h2⟩, h3⟩, h4⟩ := h
      subst h1
      exact i_rng1 G (G.gl' h2) h4 (sndE a X sc fp false _ G h3).pe
    · cases h
  | .rng2 a b, X, sc, fp, x, tg, G, h => by
    unfold agI at h
    split at h
    · simp only [Bool.and_eq_true, decide_eq_true_eq] at h
      obtain ⟨⟨⟨⟨⟨h1, h2⟩, h3⟩, h4⟩, h5⟩, h6⟩ := h
      subst h1
      exact i_rng2 G (G.gl' h2) h5 h6 (sndE a X sc fp false _ G h3).pe (sndE b X sc fp false _ G h4).pe
    · cases h
  | .zip a b, X, sc, fp, x, tg, G, h => by
    unfold agI at h
    split at h
    · simp only [Bool.and_eq_true, decide_eq_true_eq] at h
      obtain ⟨⟨⟨⟨⟨h1, h2⟩, h3⟩, h4⟩, h5⟩, h6⟩ := h
      subst h1
      exact i_zip G (G.gl' h2) h5 h6 (sndE a X sc fp false _ G h3).pe (sndE b X sc fp false _ G h4).pe
    · cases h
  | .enum a, X, sc, fp, x, tg, G, h => by
    unfold agI at h
    split at h
    · simp only [Bool.and_eq_true, decide_eq_true_eq] at h
      obtain ⟨⟨⟨h1, h2⟩, h3⟩, h4⟩ := h
      subst h1
      exact i_enum G (G.gl' h2) h4 (sndE a X sc fp false _ G h3).pe
    · cases h
  | .nil, X, sc, fp, x, tg, G, h => by unfold agI at h; cases h
  | .var _, X, sc, fp, x, tg, G, h => by unfold agI at h; cases h
  | .cst _, X, sc, fp, x, tg, G, h => by unfold agI at h; cases h
  | .glob _, X, sc, fp, x, tg, G, h => by unfold agI at h; cases h
  | .tup _, X, sc, fp, x, tg, G, h => by unfold agI at h; cases h
  | .lst _, X, sc, fp, x, tg, G, h => by unfold agI at h; cases h
  | .star _, X, sc, fp, x, tg, G, h => by unfold agI at h; cases h
  | .bin _ _ _, X, sc, fp, x, tg, G, h => by unfold agI at h; cases h
  | .neg _, X, sc, fp, x, tg, G, h => by unfold agI at h; cases h
  | .cmp _ _ _, X, sc, fp, x, tg, G, h => by unfold agI at h; cases h
  | .chain _ _ _ _ _, X, sc, fp, x, tg, G, h => by unfold agI at h; cases h
  | .and _ _, X, sc, fp, x, tg, G, h => by unfold agI at h; cases h
  | .or _ _, X, sc, fp, x, tg, G, h => by unfold agI at h; cases h
  | .not _, X, sc, fp, x, tg, G, h => by unfold agI at h; cases h
  | .ife _ _ _, X, sc, fp, x, tg, G, h => by unfold agI at h; cases h
  | .ix _ _, X, sc, fp, x, tg, G, h => by unfold agI at h; cases h
  | .sl _ _ _, X, sc, fp, x, tg, G, h => by unfold agI at h; cases h
  | .rev _, X, sc, fp, x, tg, G, h => by unfold agI at h; cases h
  | .fld _ _ _, X, sc, fp, x, tg, G, h => by unfold agI at h; cases h
  | .call _ _, X, sc, fp, x, tg, G, h => by unfold agI at h; cases h
  | .callm _ _ _, X, sc, fp, x, tg, G, h => by unfold agI at h; cases h
  | .bi _ _, X, sc, fp, x, tg, G, h => by unfold agI at h; cases h
  | .bm _ _ _, X, sc, fp, x, tg, G, h => by unfold agI at h; cases h
  | .signs _, X, sc, fp, x, tg, G, h => by unfold agI at h; cases h
  | .popAt _ _, X, sc, fp, x, tg, G, h => by unfold agI at h; cases h
  | .comp2 _ _ _ _ _ _ _ _ _, X, sc, fp, x, tg, G, h => by unfold agI at h; cases h
  | .comp _ _ _ _ _, X, sc, fp, x, tg, G, h => by unfold agI at h; cases h
  | .fstr _, X, sc, fp, x, tg, G, h => by unfold agI at h; cases h
end
end
end DT

end
section
/-! DT: statements. -/
namespace DT
open PySem PySem.Spec PyProof.Rows L2

/-! ### the look -/
def notStarred : Expr → Bool := notStar
/-- the names that may be stored from the right -/
def swNames (sc : Scope) (ts : List Expr) : List Str := ts.filterMap fun
  | .Name id pos => if sc.names.lookup id == some .local && pos.line == (ts.head?.map (·.pos.line)).getD 0 then some id else none
  | _ => none
/-- stored from the left, one by one -/
def swN (sc : Scope) (ts : List Expr) : Expr → Bool
  | .Tuple vs _ _ => (!(ts.length == 2 || ts.length == 3) || vs.length != ts.length) || (vs.any fun | .Starred .. => true | _ => false) || ((swNames sc ts).length != ts.length || (swNames sc ts).eraseDups.length != (swNames sc ts).length) || vs.all (foldedForSure 8)
  | _ => true
theorem swN_ok {sc : Scope} {ts : List Expr} {k : Nat} {p : Pos} {v : Expr} {env : PySem.Env} (h : swN sc ts v = true) (hs : env.scope = sc) (hk : sc.kind = .function) : swappedStores [.Tuple ts k p] v env = pure none := by
  subst hs
  by_cases hv : notTuple v = true
  · exact swapped_no hv _ _
  · cases v with
    | Tuple vs kk pp =>
      unfold swappedStores
      simp only [swN, Bool.or_eq_true] at h
      simp only
      split
      · rfl
      · rename_i c1
        split
        · rfl
        · rename_i c2
          split
          · rfl
          · rename_i c3
            split
            · rfl
            · rename_i c4
              exfalso
              rcases h with ((h | h) | h) | h
              · simp only [Bool.or_eq_true, not_or] at c1
                rcases h with h | h
                · exact c1.1.1 h
                · exact c1.1.2 h
              · exact c2 h
              · apply c3
                first
                  | (rcases h with h | h
                     · exact Or.inl h
                     · exact Or.inr h)
                  | (simp only [Bool.or_eq_true]
                     rcases h with h | h
                     · exact Or.inl h
                     · exact Or.inr h)
              · exact c4 h
    | _ => exact absurd rfl hv
/-- a, b = x, y stored from the right -/
def swY (sc : Scope) (n m : Str) (pn pm : Pos) (u v : Expr) : Bool :=
  (sc.names.lookup n == some .local) && (sc.names.lookup m == some .local) && (pm.line == pn.line) && !([u, v].all (foldedForSure 8)) && !([u, v].all (constantsAlone 8)) && notStar u && notStar v
theorem swY_ok {sc : Scope} {n m : Str} {pn pm pt p2 : Pos} {k k2 : Nat} {u v : Expr} {env : PySem.Env} (h : swY sc n m pn pm u v = true) (hne : n ≠ m) (hs : env.scope = sc) (hk : sc.kind = .function) :
    swappedStores [.Tuple [.Name n pn, .Name m pm] k pt] (.Tuple [u, v] k2 p2) env = pure (some [n, m]) := by
  subst hs
  unfold swY at h
  simp only [Bool.and_eq_true, Bool.not_eq_true'] at h
  obtain ⟨⟨⟨⟨⟨⟨h1, h2⟩, h3⟩, h4⟩, h5⟩, h6⟩, h7⟩ := h
  have e1 : env.kindOf n = some .local := eq_of_beq h1
  have e2 : env.kindOf m = some .local := eq_of_beq h2
  have e3 : env.blockKind = .function := by simp [Env.blockKind, hk, ScopeKind.isAnnotationScope]
  have h3' : pm.line = pn.line := eq_of_beq h3
  have nm : (m == n) = false := by simpa using fun e => hne e.symm
  have nm' : (n == m) = false := by simpa using hne
  unfold swappedStores
  simp [e1, e2, e3, Expr.pos, List.filterMap_cons, h3', h4, h5, List.eraseDups, List.eraseDupsBy, List.eraseDupsBy.loop, nm, nm', hne, Ne.symm hne]
  intro z
  exfalso
  rcases z with z | z
  · cases u <;> first
      | exact absurd h6 Bool.false_ne_true
      | exact absurd z Bool.false_ne_true
  · cases v <;> first
      | exact absurd h7 Bool.false_ne_true
      | exact absurd z Bool.false_ne_true

mutual
/-- the slots that a statement may assign -/
def sSlots : S → List Nat
  | .asg g _ => gSlots g
  | .par i j _ _ => [i, j]
  | .asgS i j _ => [i, j]
  | .ite _ t f => ssSlots t ++ ssSlots f
  | .for_ g _ b => gSlots g ++ ssSlots b
  | .while_ _ _ b => ssSlots b
  | .try_ b => ssSlots b
  | _ => []
def ssSlots : List S → List Nat
  | [] => []
  | s :: r => sSlots s ++ ssSlots r
end
section
variable (N : List Str) (nm : Nm)
mutual
def agS (sc : Scope) (fp : Str → Bool) : S → Stmt → Bool
  | .asg (.name i) e, x => match x with
    | .Assign [.Name n _] v _ => decide (N[i]? = some n) && isLoc sc fp n && agE N nm sc fp false e v
    | _ => false
  | .asg (.tup gs) e, x => match x with
    | .Assign [.Tuple ts k p] v _ => agG N sc fp (.tup gs) (.Tuple ts k p) && notComp v && swN sc ts v && agE N nm sc fp false e v
    | _ => false
  | .asgS i j e, x => match x with
    | .Assign [.Tuple [.Name n _, .Starred (.Name m _) _] _ _] v _ => decide (N[i]? = some n) && decide (N[j]? = some m) && decide (i ≠ j) && isLoc sc fp n && isLoc sc fp m && notComp v && notTuple v && agE N nm sc fp false e v
    | _ => false
  | .par i j a b, x => match x with
    | .Assign [.Tuple [.Name n pn, .Name m pm] _ _] (.Tuple [u, v] _ _) _ => decide (N[i]? = some n) && decide (N[j]? = some m) && decide (i ≠ j) && swY sc n m pn pm u v && agE N nm sc fp false a u && agE N nm sc fp false b v
    | _ => false
  | .setix i ie e, x => match x with
    | .Assign [.Subscript (.Name n _) u _] v _ => decide (N[i]? = some n) && isVis sc n && okName n && notSlice u && notComp v && agE N nm sc fp false ie u && agE N nm sc fp false e v
    | _ => false
  | .expr e, x => match x with
    | .Expr v _ => agE N nm sc fp false e v && notComp v
    | _ => false
  | .app i e, x => match x with
    | .Expr (.Call (.Attribute (.Name n _) m apos) [y] [] pos) _ => decide (N[i]? = some n) && isVis sc n && okName n && decide (m = "append") && agE N nm sc fp false e y && notStar y && (apos.endLine == pos.line)
    | _ => false
  | .ext i e, x => match x with
    | .Expr (.Call (.Attribute (.Name n _) m apos) [y] [] pos) _ => decide (N[i]? = some n) && isVis sc n && okName n && decide (m = "extend") && agE N nm sc fp false e y && notStar y && (apos.endLine == pos.line)
    | _ => false
  | .ite c t f, x => match x with
    | .If a b d _ => agE N nm sc fp true c a && agSs sc fp t b && agSs sc fp f d
    | _ => false
  | .for_ g it b, x => match x with
    | .For tg iter body [] _ => agI N nm sc fp it iter tg && notSet iter && agG N sc fp g tg && agSs sc fp b body
    | _ => false
  | .while_ _ c b, x => match x with
    | .While a body [] _ => agE N nm sc fp true c a && agSs sc fp b body
    | _ => false
  | .ret e, x => match x with
    | .Return (some v) _ => agE N nm sc fp false e v
    | _ => false
  | .retN, x => match x with
    | .Return none _ => true
    | _ => false
  | .pass, x => match x with
    | .Pass _ => true
    | _ => false
  | .never, _ => true
  | .brk, x => match x with
    | .Break _ => true
    | _ => false
  | .cont, x => match x with
    | .Continue _ => true
    | _ => false
  | .try_ b, x => match x with
    | .Try body (_ :: _) [] [] _ => agSs sc fp b body
    | _ => false
def agSs (sc : Scope) (fp : Str → Bool) : List S → List Stmt → Bool
  | [], [] => true
  | s :: r, x :: xs => agS sc fp s x && agSs sc fp r xs
  | _, _ => false
end
end

/-! ### readings -/
/-- what is handed over -/
def RetR (κ : Cs) (F : Hp) (ρ : Ro) (σ : L2.St) (H F' : Hp) (ρ' : Ro) (σ' : L2.St) (H' : Hp) : W → V → Prop
  | .val d, v => Rep κ F' d v
  | .own ds, v => Free κ F ρ σ H F' ρ' σ' H' ds v
  | .bor _, _ => False
def OutP (κ : Cs) (F : Hp) (ρ : Ro) (σ : L2.St) (H F' : Hp) (ρ' : Ro) (σ' : L2.St) (H' : Hp) (D : Ends) : Out → Prop
  | .nx => D.nx σ' H'
  | .brk => D.bk σ' H'
  | .cont => D.ct σ' H'
  | .ret w => ∀ v, RetR κ F ρ σ H F' ρ' σ' H' w v → D.rt v H'
def DoneS (κ : Cs) (K : PySem.W.Frag) (F : Hp) (ρ : Ro) (σ : L2.St) (H : Hp) (ρ' : Ro) (o : Out) (sl : List Nat) (D : Ends) : Prop :=
  ∀ F' σ' H', Step κ K F ρ σ H F' ρ' σ' H' → (∀ k, k ∉ sl → σ'[k]? = σ[k]?) → OutP κ F ρ σ H F' ρ' σ' H' D o
def TSv (κ : Cs) (Γ : Nat → Option Fn) (gl : Str → Option D) (K : PySem.W.Frag) (s : S) : TS := fun D σ H => ∃ F ρ o ρ', Rel κ K F ρ σ H ∧ evS Γ gl s ρ = some (o, ρ') ∧ DoneS κ K F ρ σ H ρ' o (sSlots s) D
def TSsv (κ : Cs) (Γ : Nat → Option Fn) (gl : Str → Option D) (K : PySem.W.Frag) (s : List S) : TS := fun D σ H => ∃ F ρ o ρ', Rel κ K F ρ σ H ∧ evSs Γ gl s ρ = some (o, ρ') ∧ DoneS κ K F ρ σ H ρ' o (ssSlots s) D
section
variable {κ : Cs} {K : PySem.W.Frag} {F F1 F2 H H0 H1 H2 : Hp} {ρ ρ1 ρ2 ρ3 ρ4 : Ro} {σ σ1 σ2 : L2.St}
theorem Free.early (s : Step κ K F ρ σ H F1 ρ1 σ1 H1) {ds : List D} {v : V} (h : Free κ F1 ρ1 σ1 H1 F2 ρ2 σ2 H2 ds v) : Free κ F ρ σ H F2 ρ2 σ2 H2 ds v := by
  obtain ⟨a, us, e, ha, r⟩ := h
  refine ⟨a, us, e, ?_, r⟩
  rcases ha with ha | ha
  · exact .inl (s.none_back ha)
  · rcases s.own a ha with z | z
    · exact .inr z
    · exact .inl z
theorem RetR.early (s : Step κ K F ρ σ H F1 ρ1 σ1 H1) {w : W} {v : V} (h : RetR κ F1 ρ1 σ1 H1 F2 ρ2 σ2 H2 w v) : RetR κ F ρ σ H F2 ρ2 σ2 H2 w v := by
  cases w with
  | val d => exact h
  | own ds => exact Free.early s h
  | bor ds => exact h
/-- a part of the way is gone -/
theorem DoneS.after (s : Step κ K F ρ σ H F1 ρ1 σ1 H1) {sl sl' : List Nat} {D : Ends} {o : Out} {ρ' : Ro} (hk : ∀ k, k ∉ sl' → σ1[k]? = σ[k]?) (hsub : ∀ k, k ∈ sl → k ∈ sl') (h : DoneS κ K F ρ σ H ρ' o sl' D) : DoneS κ K F1 ρ1 σ1 H1 ρ' o sl D := by
  intro F' σ' H' s' k'
  have z := h F' σ' H' (s.trans s') fun k hn => (k' k fun q => hn (hsub k q)).trans (hk k hn)
  cases o with
  | nx => exact z
  | brk => exact z
  | cont => exact z
  | ret w => exact fun v r => z v (r.early s)
theorem own_sub_none {i : Nat} {a : Addr} (h : Own (ρ.set i none) σ a) : Own ρ σ a := by
  obtain ⟨j, ds, h1, h2⟩ := h
  rcases set_at h1 with ⟨_, _, e⟩ | ⟨_, h1⟩
  · cases e
  · exact ⟨j, ds, h1, h2⟩
theorem give_ok (s : Step κ K F ρ σ H F1 ρ1 σ H1) {p : Pl} {v : V} {w : W} (h : RepP κ F1 ρ1 σ H H1 p v) (e : give ρ1 p = some (w, ρ2)) : Step κ K F ρ σ H F1 ρ2 σ H1 ∧ RetR κ F ρ σ H F1 ρ2 σ H1 w v := by
  cases p with
  | tmp x =>
    cases x with
    | val d => cases e; exact ⟨s, h⟩
    | own ds =>
      cases e
      obtain ⟨a, us, e1, e2, e3, e4, e5, e6⟩ := h
      exact ⟨s, a, us, e1, .inl e2, e3, e4, e5, e6⟩
    | bor ds => exact False.elim h
  | slot i =>
    have e : (match (ρ1[i]?).join with
      | some (.val d) => some (W.val d, ρ1)
      | some (.own ds) => some (W.own ds, ρ1.set i none)
      | _ => none) = some (w, ρ2) := e
    cases q : (ρ1[i]?).join with
    | none => rw [q] at e; cases e
    | some x =>
      rw [q] at e
      obtain ⟨u, h1, h2⟩ := s.rel.slot i x (slot_get q)
      have h' : σ[i]? = some (some v) := h
      rw [h1] at h'
      cases h'
      cases x with
      | val d => cases e; exact ⟨s, h2⟩
      | own ds =>
        cases e
        obtain ⟨a, us, e1, e2, e3, e4⟩ := h2
        subst e1
        refine ⟨s.setNone i, a, us, rfl, ?_, e2, e3, fun z => ?_, e4⟩
        · exact (s.own a ⟨i, ds, slot_get q, h1⟩).symm
        · obtain ⟨j, es, z1, z2⟩ := z
          rcases set_at z1 with ⟨_, _, z3⟩ | ⟨z3, z1⟩
          · cases z3
          · exact z3 (s.rel.uno i j ds es a (slot_get q) z1 h1 z2)
      | bor ds => cases e
end

/-! ### small statements -/
section
variable {κ : Cs} {Γ : Nat → Option Fn} {nm : Nm} {gl : Str → Option D} {L : Nat} {N : List Str} {X : Cx} {sc : Scope} {fp : Str → Bool}
theorem done_nx {F : Hp} {ρ : Ro} {σ : L2.St} {H : Hp} {ρ' : Ro} {sl : List Nat} {D : Ends} (h : DoneS κ X.K F ρ σ H ρ' .nx sl D) : ∀ F' σ' H', Step κ X.K F ρ σ H F' ρ' σ' H' → (∀ k, k ∉ sl → σ'[k]? = σ[k]?) → D.nx σ' H' := h
theorem keep_set {σ : L2.St} {i : Nat} {x : Option V} {sl : List Nat} (hi : i ∈ sl) : ∀ k, k ∉ sl → (σ.set i x)[k]? = σ[k]? := fun k hk => by
  rw [List.getElem?_set_ne (fun z => hk (by rw [← z]; exact hi))]
theorem put_run {i : Nat} {e : E} {D : Ends} {σ : L2.St} {H : Hp} (q : TSv κ Γ gl X.K (.asg (.name i) e) D σ H) : TEv κ Γ gl X.K e σ H fun x H1 => D.nx (σ.set i (some x)) H1 := by
  obtain ⟨F, ρ, o, ρ', rel, e0, k⟩ := q
  unfold evS at e0
  obtain ⟨p, ρ1, h1, e0⟩ := bnd2_of e0
  obtain ⟨ρ2, h2, e0⟩ := bnd1_of e0
  cases e0
  refine one rel h1 fun F1 H1 u s1 r1 => ?_
  have gen : (bnd2 (toVal ρ1 p) fun d ρ1 => asg (.name i) d ρ1) = some ρ' → D.nx (σ.set i (some u)) H1 := fun z => by
    obtain ⟨d, ρ3, z1, z2⟩ := bnd2_of z
    unfold asg at z2
    cases z2
    obtain ⟨F2, s2, hv, _⟩ := toVal_step s1 r1.weak z1
    exact k F2 _ H1 (s2.setVal i hv) (keep_set (by unfold sSlots gSlots; simp))
  cases p with
  | slot j => exact gen h2
  | tmp w =>
    cases w with
    | val d => exact gen h2
    | own ds =>
      cases h2
      obtain ⟨a, us, e1, e2, e3, e4, e5, e6⟩ := r1
      exact k F1 _ H1 (Step.setOwn rel s1 i ⟨a, us, e1, .inl e2, e3, e4, e5, e6⟩) (keep_set (by unfold sSlots gSlots; simp))
    | bor ds => exact gen h2
theorem t_asgN (G : Good κ Γ nm gl L N X sc fp) {i : Nat} {e : E} {n : Str} {v : Expr} {p q : Pos} (hk : sc.kind = .function) (hN : N[i]? = some n) (hl : isLoc sc fp n = true) (h : agE N nm sc fp false e v = true) : PS X (.Assign [.Name n p] v q) (TSv κ Γ gl X.K (.asg (.name i) e)) := by
  obtain ⟨l1, l2⟩ := G.loc hl
  have plain : (hs : swapsWith v (some (.Name n p)) q.line X.env = pure false) → PS X (.Assign [.Name n p] v q) (TSv κ Γ gl X.K (.asg (.name i) e)) := fun hs =>
    PS.imp (ps_set (i := i) (by rw [G.hN]; exact G.nd) (by rw [G.hN]; exact hN) l1 (sndE e X sc fp false v G h).pe hs l2) fun D σ H q => put_run q
  by_cases hc : notComp v = true
  · exact plain (swaps_no hc _ _ _)
  · cases e with
    | comp elt it0 it c own =>
      unfold agE at h
      split at h
      · rename_i y tg iter ifs a scope pos
        simp only [Bool.and_eq_true, decide_eq_true_eq] at h
        obtain ⟨⟨⟨⟨⟨⟨⟨h1, h2⟩, h3⟩, h4⟩, h5⟩, h6⟩, h7⟩, h8⟩ := h
        subst h1
        have hg := it0
        by_cases hsw : (X.env.blockKind == .function && X.env.kindOf n == some .local && p.line == pos.line && !(scope.names.any fun (n', k) => n' == n && (k == .local || k == .cell))) = true
        · have ok : BlkOk X.N X.env.scope scope (ownL N own) := by rw [G.hN, G.hsc]; exact blkOk_by h4
          have eo : (ownL N own).map (·.2) = own := by
            unfold ownL
            rw [List.map_map]
            exact List.map_id own
          have ht : ∀ X', Good κ Γ nm gl L N X' (relS scope sc) (fun n => scope.names.lookup n == some .cell) → PTs X' ifs (TTv κ Γ gl X'.K c) := fun X' G' => by
            match ifs, h7 with
            | [], h7 =>
              cases c with
              | nil => exact ⟨fun pins s σ H Q I q => pts_nil.run pins s σ H Q I (tYes_ok q)⟩
              | _ => cases h7
            | [z], h7 => exact pts_one (sndE c X' _ _ true z G' h7).pt
          have hloc : X.env.scope.names.lookup n = some .local := by
            simp only [Bool.and_eq_true] at hsw
            exact eq_of_beq hsw.1.1.2
          have r := ps_setLc (i := i) (py := p) (pos := pos) (spos := q) (g := TGv κ X.K it0) (tt := TTv κ Γ gl X.K c) (te := TEv κ Γ gl X.K elt) G.calm (by rw [G.hN]; exact G.nd) (by rw [G.hN]; exact hN) hloc
            (congrArg (pure : Bool → Sem Bool) hsw) (sndI it X sc fp iter tg G h2) ok (fun s H C cl fl => sndG it0 _ _ _ _ (G.blk s H C cl fl) h5) (fun s H C cl fl => ht _ (G.blk s H C cl fl)) (fun s H C cl fl => (sndE elt _ _ _ false y (G.blk s H C cl fl) h8).pe) (fun x => set_no h3 X.env x)
          rw [eo] at r
          exact PS.imp r fun D σ H q => comp_run (fun i hi => by simpa using List.all_eq_true.mp h6 i hi) (put_run q)
        · exact plain (congrArg (pure : Bool → Sem Bool) (Bool.eq_false_iff.mpr hsw))
      · cases h
    | comp2 elt it0 it c own it9 it1 c1 own1 =>
      unfold agE at h
      split at h
      · rename_i y tg iter ifs a tg1 iter1 ifs1 a1 scope pos
        simp only [Bool.and_eq_true, decide_eq_true_eq] at h
        obtain ⟨⟨⟨⟨⟨⟨⟨⟨⟨⟨⟨⟨⟨⟨h1, h2⟩, h3⟩, h4⟩, h5⟩, h6⟩, h7⟩, h8⟩, h9⟩, h10⟩, h11⟩, h12⟩, h13⟩, h14⟩, h15⟩ := h
        subst h1
        subst h2
        by_cases hsw : (X.env.blockKind == .function && X.env.kindOf n == some .local && p.line == pos.line && !(scope.names.any fun (n', k) => n' == n && (k == .local || k == .cell))) = true
        · have ok : BlkOk X.N X.env.scope scope (ownL N own) := by rw [G.hN, G.hsc]; exact blkOk_by h6
          have eo : (ownL N own).map (·.2) = own := by
            unfold ownL
            rw [List.map_map]
            exact List.map_id own
          have o2 : ∀ i ∈ own1, i ∈ own := fun i hi => by simpa using List.all_eq_true.mp h11 i hi
          have ht : ∀ X', Good κ Γ nm gl L N X' (relS scope sc) (fun n => scope.names.lookup n == some .cell) → PTs X' ifs (TTv κ Γ gl X'.K c) := fun X' G' => by
            match ifs, h13 with
            | [], h13 =>
              cases c with
              | nil => exact ⟨fun pins s σ H Q I q => pts_nil.run pins s σ H Q I (tYes_ok q)⟩
              | _ => cases h13
            | [z], h13 => exact pts_one (sndE c X' _ _ true z G' h13).pt
          have ht1 : ∀ X', Good κ Γ nm gl L N X' (relS scope sc) (fun n => scope.names.lookup n == some .cell) → PTs X' ifs1 (TTv κ Γ gl X'.K c1) := fun X' G' => by
            match ifs1, h14 with
            | [], h14 =>
              cases c1 with
              | nil => exact ⟨fun pins s σ H Q I q => pts_nil.run pins s σ H Q I (tYes_ok q)⟩
              | _ => cases h14
            | [z], h14 => exact pts_one (sndE c1 X' _ _ true z G' h14).pt
          have hloc : X.env.scope.names.lookup n = some .local := by
            simp only [Bool.and_eq_true] at hsw
            exact eq_of_beq hsw.1.1.2
          have r := ps_setLc2 (i := i) (py := p) (pos := pos) (spos := q) (vs1 := own1) (g := TGv κ X.K it0) (tt := TTv κ Γ gl X.K c) (wi1 := TIv κ Γ gl X.K it1) (g1 := TGv κ X.K it9) (tt1 := TTv κ Γ gl X.K c1) (te := TEv κ Γ gl X.K elt) G.calm (by rw [G.hN]; exact G.nd) (by rw [G.hN]; exact hN) hloc
            (congrArg (pure : Bool → Sem Bool) hsw) (sndI it X sc fp iter tg G h3) ok (by rw [eo]; exact o2) (fun s H C cl fl => sndG it0 _ _ _ _ (G.blk s H C cl fl) h7) (fun s H C cl fl => ht _ (G.blk s H C cl fl))
            (fun s H C cl fl => sndI it1 _ _ _ iter1 tg1 (G.blk s H C cl fl) h12) (fun s H C cl fl => sndG it9 _ _ _ _ (G.blk s H C cl fl) h9) (fun s H C cl fl => ht1 _ (G.blk s H C cl fl)) (fun s H C cl fl => (sndE elt _ _ _ false y (G.blk s H C cl fl) h15).pe) (fun x => set_no h4 X.env x) (fun env x => set_no h5 env x)
          rw [eo] at r
          exact PS.imp r fun D σ H q => comp2_run (fun i hi => by simpa using List.all_eq_true.mp h8 i hi) (fun i hi => by simpa using List.all_eq_true.mp h10 i hi) o2 (put_run q)
        · exact plain (congrArg (pure : Bool → Sem Bool) (Bool.eq_false_iff.mpr hsw))
      · cases h
    | _ =>
      exfalso
      cases v <;> first
        | exact hc rfl
        | (unfold agE at h; first
            | exact Bool.false_ne_true h
            | (simp at h; done)
            | (split at h <;> first
                | exact Bool.false_ne_true h
                | contradiction))
theorem t_asgT (G : Good κ Γ nm gl L N X sc fp) {gs : List DT.G} {e : E} {ts : List Expr} {k : Nat} {v : Expr} {p q : Pos} (hk : sc.kind = .function) (hg : agG N sc fp (.tup gs) (.Tuple ts k p) = true) (hc : notComp v = true) (hw : swN sc ts v = true) (h : agE N nm sc fp false e v = true) :
    PS X (.Assign [.Tuple ts k p] v q) (TSv κ Γ gl X.K (.asg (.tup gs) e)) := by
  refine PS.imp (ps_asg (sndE e X sc fp false v G h).pe (sndG (.tup gs) X sc fp _ G hg) (show swapsWithSole [_] v q.line X.env = pure false from swaps_no hc (some (.Tuple ts k p)) q.line X.env) (swN_ok hw G.hsc hk) rfl) fun D σ H q => ?_
  obtain ⟨F, ρ, o, ρ', rel, e0, kk⟩ := q
  unfold evS at e0
  obtain ⟨p, ρ1, h1, e0⟩ := bnd2_of e0
  obtain ⟨ρ2, h2, e0⟩ := bnd1_of e0
  cases e0
  refine one rel h1 fun F1 H1 u s1 r1 => ?_
  have h2 : (bnd2 (toVal ρ1 p) fun d ρ1 => asg (.tup gs) d ρ1) = some ρ' := h2
  obtain ⟨d, ρ3, z1, z2⟩ := bnd2_of h2
  obtain ⟨F2, s2, hv, _⟩ := toVal_step s1 r1.weak z1
  exact ⟨F2, ρ3, d, _, s2.rel, hv, z2, fun σ' s3 hout => kk F2 σ' H1 (s2.trans s3) hout⟩
theorem t_asgS (G : Good κ Γ nm gl L N X sc fp) {i j : Nat} {e : E} {n m : Str} {pn pm ps p q : Pos} {k : Nat} {v : Expr} (hi : N[i]? = some n) (hj : N[j]? = some m) (hij : i ≠ j) (hn : isLoc sc fp n = true) (hm : isLoc sc fp m = true) (hc : notComp v = true) (ht : notTuple v = true) (h : agE N nm sc fp false e v = true) :
    PS X (.Assign [.Tuple [.Name n pn, .Starred (.Name m pm) ps] k p] v q) (TSv κ Γ gl X.K (.asgS i j e)) := by
  obtain ⟨l1, l2⟩ := G.loc hn
  obtain ⟨m1, m2⟩ := G.loc hm
  refine PS.imp (ps_asg (sndE e X sc fp false v G h).pe (pg_starL (i := i) (j := j) G.calm (by rw [G.hN]; exact G.nd) (by rw [G.hN]; exact hi) (by rw [G.hN]; exact hj) l1 m1 l2 m2) (show swapsWithSole [_] v q.line X.env = pure false from swaps_no hc (some (.Tuple [.Name n pn, .Starred (.Name m pm) ps] k p)) q.line X.env) (swapped_no ht _ _)) fun D σ H q => ?_
  obtain ⟨F, ρ, o, ρ', rel, e0, kk⟩ := q
  unfold evS at e0
  obtain ⟨p, ρ1, h1, e0⟩ := bnd2_of e0
  obtain ⟨d, h2, e0⟩ := bnd1_of e0
  obtain ⟨l, h3, e0⟩ := bnd1_of e0
  obtain ⟨c, e0⟩ := req_of e0
  have c := of_decide_eq_true c
  rw [lstD_of h3] at h2
  cases l with
  | nil => cases e0
  | cons x r =>
    cases e0
    refine one rel h1 fun F1 H1 u s1 r1 => ?_
    have r1' := r1
    obtain ⟨a, us, e1, e2, e3⟩ := repQ_lst (getQ_rep (K := X.K) s1.rel r1 h2)
    cases us with
    | nil => exact absurd e3.length (by simp)
    | cons ux us =>
      obtain ⟨hx, hr⟩ := repL_cc.mp e3
      refine ⟨a, ux, us, e1, e2, by have := e3.length; simp at this c; omega, fun b hb => ?_⟩
      have s2 := s1.setVal i hx
      have s3 := s2.alloc (o := .lst us) hb
      refine kk F1 _ _ (s3.setOwn rel j ⟨b, us, rfl, .inl (s2.none_back hb), upd_same, s2.rel.noF hb, s2.rel.noOwn hb, hr⟩) fun l hl => ?_
      unfold sSlots at hl
      simp only [List.mem_cons, List.not_mem_nil, or_false, not_or] at hl
      rw [List.getElem?_set_ne (Ne.symm hl.2), List.getElem?_set_ne (Ne.symm hl.1)]
/-- a slot gets what is handed over -/
theorem Step.setW {F : Hp} {ρ : Ro} {σ : L2.St} {H F1 : Hp} {ρ1 : Ro} {σ1 : L2.St} {H1 : Hp} (r0 : Rel κ X.K F ρ σ H) (s : Step κ X.K F ρ σ H F1 ρ1 σ1 H1) (i : Nat) {w : W} {v : V} (h : RetR κ F ρ σ H F1 ρ1 σ1 H1 w v) : Step κ X.K F ρ σ H F1 (ρ1.set i (some w)) (σ1.set i (some v)) H1 := by
  cases w with
  | val d => exact s.setVal i h
  | own ds => exact s.setOwn r0 i h
  | bor ds => exact False.elim h
theorem own_setW {ρ : Ro} {σ : L2.St} {i : Nat} {w : W} {v : V} {a : Addr} (h : Own (ρ.set i (some w)) (σ.set i (some v)) a) : ((∃ ds, w = .own ds) ∧ v = .ref a) ∨ Own ρ σ a := by
  obtain ⟨j, ds, h1, h2⟩ := h
  rcases set_at h1 with ⟨e, l, e2⟩ | ⟨e, h1⟩
  · subst e
    have hl : i < σ.length := by
      rcases Nat.lt_or_ge i σ.length with z | z
      · exact z
      · rw [List.getElem?_eq_none (by rw [List.length_set]; exact z)] at h2; cases h2
    rw [List.getElem?_set_self hl] at h2
    cases h2
    cases e2
    exact .inl ⟨⟨ds, rfl⟩, rfl⟩
  · rw [List.getElem?_set_ne e] at h2
    exact .inr ⟨j, ds, h1, h2⟩
theorem t_par (G : Good κ Γ nm gl L N X sc fp) {i j : Nat} {a b : E} {n m : Str} {pn pm pt p2 q : Pos} {k k2 : Nat} {u v : Expr} (hk : sc.kind = .function) (hi : N[i]? = some n) (hj : N[j]? = some m) (hij : i ≠ j) (hw : swY sc n m pn pm u v = true) (ha : agE N nm sc fp false a u = true) (hb : agE N nm sc fp false b v = true) :
    PS X (.Assign [.Tuple [.Name n pn, .Name m pm] k pt] (.Tuple [u, v] k2 p2) q) (TSv κ Γ gl X.K (.par i j a b)) := by
  have hne : n ≠ m := fun z => hij (nodup_ix G.nd hi (z ▸ hj))
  have hw' := hw
  unfold swY at hw'
  simp only [Bool.and_eq_true, Bool.not_eq_true'] at hw'
  obtain ⟨⟨⟨⟨⟨⟨h1, h2⟩, h3⟩, h4⟩, h5⟩, h6⟩, h7⟩ := hw'
  refine PS.imp (ps_par (i := i) (j := j) G.calm (by rw [G.hN]; exact G.nd) (by rw [G.hN]; exact hi) (by rw [G.hN]; exact hj) hij (by rw [G.hsc]; exact eq_of_beq h1) (by rw [G.hsc]; exact eq_of_beq h2)
    (pa_cons (sndE a X sc fp false u G ha).pe (pa_cons (sndE b X sc fp false v G hb).pe pa_nil (star_no h7 [] X.env)) (star_no h6 [v] X.env)) (swY_ok hw hne G.hsc hk) rfl) fun D σ H q => ?_
  obtain ⟨F, ρ, o, ρ', rel, e0, kk⟩ := q
  unfold evS at e0
  obtain ⟨p1, ρ1, g1, e0⟩ := bnd2_of e0
  obtain ⟨p2, ρ2, g2, e0⟩ := bnd2_of e0
  obtain ⟨w1, ρ3, g3, e0⟩ := bnd2_of e0
  obtain ⟨w2, ρ4, g4, e0⟩ := bnd2_of e0
  cases e0
  refine ⟨F, ρ, p1, ρ1, rel, g1, fun F1 H1 x s1 r1 => ⟨F1, ρ1, p2, ρ2, s1.rel, g2, fun F2 H2 y s2 r2 => ?_⟩⟩
  have s := s1.trans s2
  have r1' := r1.step s2
  obtain ⟨s3, v1⟩ := give_ok s r1' g3
  -- the second operand behind the giving of the first
  have r2' : RepP κ F2 ρ3 σ H H2 p2 y := by
    have z := r2.early fun a z => s1.none_back z
    cases p2 with
    | slot _ => exact z
    | tmp w =>
      cases w with
      | val _ => exact z
      | bor _ => exact z
      | own ds =>
        obtain ⟨a, us, e1, e2, e3, e4, e5, e6⟩ := z
        refine ⟨a, us, e1, e2, e3, e4, fun q => e5 ?_, e6⟩
        cases p1 with
        | tmp w' =>
          cases w' <;> first
            | (cases g3; exact q)
            | cases g3
        | slot i1 =>
          have g3 : (match (ρ2[i1]?).join with
            | some (.val d) => some (W.val d, ρ2)
            | some (.own ds) => some (W.own ds, ρ2.set i1 none)
            | _ => none) = some (w1, ρ3) := g3
          split at g3
          · cases g3; exact q
          · cases g3; exact own_sub_none q
          · cases g3
  obtain ⟨s4, v2⟩ := give_ok s3 r2' g4
  -- the first is still nobody's
  have sub : ∀ a, Own ρ4 σ a → Own ρ3 σ a := fun a q => by
    cases p2 with
    | tmp w' =>
      cases w' <;> first
        | (cases g4; exact q)
        | cases g4
    | slot i1 =>
      have g4 : (match (ρ3[i1]?).join with
        | some (.val d) => some (W.val d, ρ3)
        | some (.own ds) => some (W.own ds, ρ3.set i1 none)
        | _ => none) = some (w2, ρ4) := g4
      split at g4
      · cases g4; exact q
      · cases g4; exact own_sub_none q
      · cases g4
  have v1' : RetR κ F ρ σ H F2 ρ4 σ H2 w1 x := by
    cases w1 with
    | val d => exact v1
    | bor d => exact v1
    | own ds =>
      obtain ⟨a, us, e1, e2, e3, e4, e5, e6⟩ := v1
      exact ⟨a, us, e1, e2, e3, e4, fun q => e5 (sub a q), e6⟩
  -- the two are apart
  have apart : ∀ a ds es, w1 = .own ds → w2 = .own es → x = .ref a → y = .ref a → False := fun a ds es q1 q2 q3 q4 => by
    subst q1 q2 q3 q4
    have own1 : ¬ Own ρ3 σ a := by
      obtain ⟨b, _, z, _, _, _, z2, _⟩ := v1
      cases z
      exact z2
    cases p2 with
    | slot i1 =>
      have g4 : (match (ρ3[i1]?).join with
        | some (.val d) => some (W.val d, ρ3)
        | some (.own ds) => some (W.own ds, ρ3.set i1 none)
        | _ => none) = some (W.own es, ρ4) := g4
      split at g4
      · cases g4
      · rename_i q
        have z : σ[i1]? = some (some (.ref a)) := r2
        exact own1 ⟨i1, _, slot_get q, z⟩
      · cases g4
    | tmp w' =>
      cases w' with
      | val d => cases g4
      | bor d => exact False.elim r2
      | own l =>
        obtain ⟨b, us, z1, z2, z3, z4, z5, z6⟩ := r2
        cases z1
        cases p1 with
        | tmp w'' =>
          cases w'' with
          | val d => cases g3
          | bor d => exact False.elim r1
          | own l' =>
            obtain ⟨c, us', y1, y2, y3, _⟩ := r1
            cases y1
            rw [y3] at z2
            cases z2
        | slot i1 =>
          have g3 : (match (ρ2[i1]?).join with
            | some (.val d) => some (W.val d, ρ2)
            | some (.own ds) => some (W.own ds, ρ2.set i1 none)
            | _ => none) = some (W.own ds, ρ3) := g3
          split at g3
          · cases g3
          · rename_i q
            have z : σ[i1]? = some (some (.ref a)) := r1
            exact z5 ⟨i1, _, slot_get q, z⟩
          · cases g3
  have s5 := Step.setW rel s4 i v1'
  have v2' : RetR κ F ρ σ H F2 (ρ4.set i (some w1)) (σ.set i (some x)) H2 w2 y := by
    cases w2 with
    | val d => exact v2
    | bor d => exact v2
    | own es =>
      obtain ⟨a, us, e1, e2, e3, e4, e5, e6⟩ := v2
      refine ⟨a, us, e1, e2, e3, e4, fun q => ?_, e6⟩
      rcases own_setW q with ⟨⟨ds, q1⟩, q2⟩ | q
      · exact apart a ds es q1 rfl q2 e1
      · exact e5 q
  have s6 := Step.setW rel s5 j v2'
  refine ⟨x, y, rfl, kk F2 _ H2 s6 fun l hl => ?_⟩
  unfold sSlots at hl
  simp only [List.mem_cons, List.not_mem_nil, or_false, not_or] at hl
  rw [List.getElem?_set_ne (Ne.symm hl.2), List.getElem?_set_ne (Ne.symm hl.1)]
theorem sub_plain {o i : Expr} (h : notSlice i = true) {pos : Pos} {env : PySem.Env} (v : Value) : assign (.Subscript o i pos) env v = (do
      let ov ← holding [v] (eval o env)
      let iv ← holding [v, ov] (eval i env)
      standAt pos
      holding [v, ov, iv] (setItem ov iv v)
      release [v, ov, iv] []) := by
  cases i <;> first
    | rfl
    | cases h
theorem t_setix (G : Good κ Γ nm gl L N X sc fp) {i : Nat} {ie e : E} {n : Str} {u v : Expr} {pn ps q : Pos} (hN : N[i]? = some n) (hv : isVis sc n = true) (hok : okName n = true) (hs : notSlice u = true) (hc : notComp v = true) (hi : agE N nm sc fp false ie u = true) (h : agE N nm sc fp false e v = true) :
    PS X (.Assign [.Subscript (.Name n pn) u ps] v q) (TSv κ Γ gl X.K (.setix i ie e)) := by
  have ho : PE X (.Name n pn) (tVar i) := pe_var (by rw [G.hN]; exact hN) (G.vis hv) (okName_1 hok) (okName_2 hok)
  refine PS.imp (ps_asg (sndE e X sc fp false v G h).pe (pg_sub ho (sndE ie X sc fp false u G hi).pe set_list (fun v => sub_plain hs v)) (show swapsWithSole [_] v q.line X.env = pure false from swaps_no hc (some (.Subscript (.Name n pn) u ps)) q.line X.env) (by unfold swappedStores; rfl) rfl) fun D σ H q => ?_
  obtain ⟨F, ρ, o, ρ', rel, e0, kk⟩ := q
  unfold evS at e0
  obtain ⟨w0, f1, e0⟩ := bnd1_of e0
  obtain ⟨l0, f2, e0⟩ := bnd1_of e0
  obtain ⟨p, ρ1, h1, e0⟩ := bnd2_of e0
  obtain ⟨d, ρ2, h2, e0⟩ := bnd2_of e0
  obtain ⟨p', ρ3, h3, e0⟩ := bnd2_of e0
  obtain ⟨x, g1, e0⟩ := bnd1_of e0
  obtain ⟨k, g2, e0⟩ := bnd1_of e0
  obtain ⟨w, g3, e0⟩ := bnd1_of e0
  obtain ⟨ds, g4, e0⟩ := bnd1_of e0
  obtain ⟨c, e0⟩ := req_of e0
  cases e0
  rw [intD_of g2] at g1
  rw [ownW_of g4] at g3
  simp only [Bool.and_eq_true, decide_eq_true_eq] at c
  refine one rel h1 fun F1 H1 y s1 r1 => ?_
  obtain ⟨F2, s2, hd, _⟩ := toVal_step s1 r1.weak h2
  obtain ⟨z, hz, _⟩ := rel.slot i _ (slot_get f1)
  refine ⟨z, hz, F2, ρ2, p', ρ3, s2.rel, h3, fun F3 H3 t s3 r3 => ?_⟩
  have s := s2.trans s3
  obtain ⟨z', y1, a, us, y2, y3, y4, y5⟩ := s.rel.slot i _ (slot_get g3)
  rw [hz] at y1
  cases y1
  subst y2
  refine ⟨a, us, k, k.toNat, rfl, repQ_int (getQ_rep (K := X.K) s.rel r3 g1), y3, ?_, kk F3 σ _ (s.change (slot_get g3) hz (y5.set _ (Rep.mono s3.ex _ _ hd))) fun _ _ => rfl⟩
  have hl := y5.length
  unfold ixN
  rw [if_pos c.1, if_pos (by omega)]
end
end DT

end
section
/-! DT: statements: calls of list methods, loops; the theorem about statements. -/
namespace DT
open PySem PySem.Spec PyProof.Rows L2
section
variable {κ : Cs} {Γ : Nat → Option Fn} {nm : Nm} {gl : Str → Option D} {L : Nat} {N : List Str} {X : Cx} {sc : Scope} {fp : Str → Bool}
theorem few_ok {y : Expr} (hy : notStar y = true) {pos : Pos} {env : PySem.Env} : ((backTo pos (starEach [y] env)).all (fun x => !x.1) && (backToKw pos (keywordEach [] env)).all (fun x => x.1.isSome)
      && decide ([y].length + ([] : List Keyword).length + (if ([] : List Keyword).isEmpty then 0 else 1) < 30)) = true := by rw [star_no hy [] env]; rfl
theorem t_app (G : Good κ Γ nm gl L N X sc fp) {i : Nat} {e : E} {n : Str} {y : Expr} {pn apos pos q : Pos} (hN : N[i]? = some n) (hv : isVis sc n = true) (hok : okName n = true) (he : agE N nm sc fp false e y = true) (hy : notStar y = true) (hl : (apos.endLine == pos.line) = true) :
    PS X (.Expr (.Call (.Attribute (.Name n pn) "append" apos) [y] [] pos) q) (TSv κ Γ gl X.K (.app i e)) := by
  have ho : PE X (.Name n pn) (tVar i) := pe_var (by rw [G.hN]; exact hN) (G.vis hv) (okName_1 hok) (okName_2 hok)
  have hs := star_no hy [] X.env
  refine PS.imp (ps_expr (pe_bm PySem.F.plainAttrs_list PySem.F.slot_list_append PySem.F.type_list_append (show MtR X "list.append" rAppend from mt_append) ho (pa_cons (sndE e X sc fp false y G he).pe pa_nil hs) (base_no rfl _ _ _) (few_ok hy) hl hs rfl) rfl) fun D σ H q => ?_
  obtain ⟨F, ρ, o, ρ', rel, e0, kk⟩ := q
  unfold evS at e0
  obtain ⟨w0, f1, e0⟩ := bnd1_of e0
  obtain ⟨l0, f2, e0⟩ := bnd1_of e0
  obtain ⟨p, ρ1, h1, e0⟩ := bnd2_of e0
  obtain ⟨d, ρ2, h2, e0⟩ := bnd2_of e0
  obtain ⟨w, g3, e0⟩ := bnd1_of e0
  obtain ⟨ds, g4, e0⟩ := bnd1_of e0
  obtain ⟨c, e0⟩ := req_of e0
  cases e0
  rw [ownW_of f2] at f1
  rw [ownW_of g4] at g3
  have c := of_decide_eq_true c
  obtain ⟨v0, z1, a0, us0, z2, z3, _⟩ := rel.slot i _ (slot_get f1)
  subst z2
  refine ⟨_, z1, .inl ⟨rfl, us0, SqL.of z3⟩, ?_⟩
  refine one (R := fun u H2 => rAppend (.ref a0) [u] H2 fun _ H1 => D.nx σ H1) rel h1 fun F1 H1 u s1 r1 => ?_
  obtain ⟨F2, s2, hd, _⟩ := toVal_step s1 r1.weak h2
  obtain ⟨v, y1, a, us, y2, y3, y4, y5⟩ := s2.rel.slot i _ (slot_get g3)
  rw [z1] at y1
  cases y1
  cases y2
  exact ⟨a0, us, u, rfl, rfl, y3, by rw [← y5.length]; exact big_lt c, kk F2 σ _ (s2.change (slot_get g3) z1 (y5.append (repL_cc.mpr ⟨hd, repL_nil.mpr rfl⟩))) fun _ _ => rfl⟩
theorem t_ext (G : Good κ Γ nm gl L N X sc fp) {i : Nat} {e : E} {n : Str} {y : Expr} {pn apos pos q : Pos} (hN : N[i]? = some n) (hv : isVis sc n = true) (hok : okName n = true) (he : agE N nm sc fp false e y = true) (hy : notStar y = true) (hl : (apos.endLine == pos.line) = true) :
    PS X (.Expr (.Call (.Attribute (.Name n pn) "extend" apos) [y] [] pos) q) (TSv κ Γ gl X.K (.ext i e)) := by
  have ho : PE X (.Name n pn) (tVar i) := pe_var (by rw [G.hN]; exact hN) (G.vis hv) (okName_1 hok) (okName_2 hok)
  have hs := star_no hy [] X.env
  refine PS.imp (ps_expr (pe_bm PySem.F.plainAttrs_list PySem.F.slot_list_extend PySem.F.type_list_extend (show MtR X "list.extend" rExtend from mt_extend) ho (pa_cons (sndE e X sc fp false y G he).pe pa_nil hs) (base_no rfl _ _ _) (few_ok hy) hl hs rfl) rfl) fun D σ H q => ?_
  obtain ⟨F, ρ, o, ρ', rel, e0, kk⟩ := q
  unfold evS at e0
  obtain ⟨w0, f1, e0⟩ := bnd1_of e0
  obtain ⟨l0, f2, e0⟩ := bnd1_of e0
  obtain ⟨p, ρ1, h1, e0⟩ := bnd2_of e0
  obtain ⟨d, h2, e0⟩ := bnd1_of e0
  obtain ⟨es, h3, e0⟩ := bnd1_of e0
  obtain ⟨w, g3, e0⟩ := bnd1_of e0
  obtain ⟨ds, g4, e0⟩ := bnd1_of e0
  obtain ⟨c, e0⟩ := req_of e0
  cases e0
  rw [ownW_of f2] at f1
  rw [ownW_of g4] at g3
  rw [lstD_of h3] at h2
  have c := of_decide_eq_true c
  obtain ⟨v0, z1, a0, us0, z2, z3, _⟩ := rel.slot i _ (slot_get f1)
  subst z2
  refine ⟨_, z1, .inl ⟨rfl, us0, SqL.of z3⟩, ?_⟩
  refine one (R := fun u H2 => rExtend (.ref a0) [u] H2 fun _ H1 => D.nx σ H1) rel h1 fun F1 H1 u s1 r1 => ?_
  obtain ⟨b, vs, x1, x2, x3⟩ := getC_rep (K := X.K) s1.rel r1 h2
  subst x1
  obtain ⟨v, y1, a, us, y2, y3, y4, y5⟩ := s1.rel.slot i _ (slot_get g3)
  rw [z1] at y1
  cases y1
  cases y2
  exact ⟨a0, b, us, vs, rfl, rfl, y3, x2, by rw [← y5.length, ← x3.length]; exact big_le c, kk F1 σ _ (s1.change (slot_get g3) z1 (y5.append x3)) fun _ _ => rfl⟩
theorem t_ret {e : E} {v : Expr} {q : Pos} (h : PE X v (TEv κ Γ gl X.K e)) : PS X (.Return (some v) q) (TSv κ Γ gl X.K (.ret e)) := PS.imp (ps_ret h) fun D σ H q => by
  obtain ⟨F, ρ, o, ρ', rel, e0, kk⟩ := q
  unfold evS at e0
  obtain ⟨p, ρ1, h1, e0⟩ := bnd2_of e0
  obtain ⟨w, ρ2, h2, e0⟩ := bnd2_of e0
  cases e0
  refine one rel h1 fun F1 H1 u s1 r1 => ?_
  obtain ⟨s2, r2⟩ := give_ok s1 r1 h2
  exact kk F1 σ H1 s2 (fun _ _ => rfl) u r2
theorem t_expr {e : E} {v : Expr} {q : Pos} (h : PE X v (TEv κ Γ gl X.K e)) (hc : notComp v = true) : PS X (.Expr v q) (TSv κ Γ gl X.K (.expr e)) := PS.imp (ps_expr h (swaps_no hc _ _ _)) fun D σ H q => by
  obtain ⟨F, ρ, o, ρ', rel, e0, kk⟩ := q
  unfold evS at e0
  obtain ⟨p, ρ1, h1, e0⟩ := bnd2_of e0
  cases e0
  exact one rel h1 fun F1 H1 u s1 r1 => kk F1 σ H1 s1 fun _ _ => rfl
theorem t_ite {c : E} {t f : List S} {a : Expr} {b d : List Stmt} {q : Pos} (hc : PT X a (TTv κ Γ gl X.K c)) (ht : PSs X b (TSsv κ Γ gl X.K t)) (hf : PSs X d (TSsv κ Γ gl X.K f)) : PS X (.If a b d q) (TSv κ Γ gl X.K (.ite c t f)) := PS.imp (ps_if hc ht hf) fun D σ H q => by
  obtain ⟨F, ρ, o, ρ', rel, e0, kk⟩ := q
  unfold evS at e0
  obtain ⟨k, ρ1, h1, e0⟩ := bnd2_of e0
  refine ⟨F, ρ, k, ρ1, rel, h1, fun F1 H1 s1 => ?_⟩
  cases k with
  | true => exact ⟨F1, ρ1, o, ρ', s1.rel, e0, kk.after s1 (fun _ _ => rfl) fun k hk => by unfold sSlots; exact List.mem_append_left _ hk⟩
  | false => exact ⟨F1, ρ1, o, ρ', s1.rel, e0, kk.after s1 (fun _ _ => rfl) fun k hk => by unfold sSlots; exact List.mem_append_right _ hk⟩
theorem t_for (G : Good κ Γ nm gl L N X sc fp) {g : DT.G} {it : E} {b : List S} {tg iter : Expr} {body : List Stmt} {q : Pos} (hi : PI X tg iter (TIv κ Γ gl X.K it)) (hs : notSet iter = true) (hg : PG X tg (TGv κ X.K g)) (hb : PSs X body (TSsv κ Γ gl X.K b)) :
    PS X (.For tg iter body [] q) (TSv κ Γ gl X.K (.for_ g it b)) := PS.imp (ps_for (by rw [G.xe]; exact .never) G.calm hi hg hb (fun x => set_no hs X.env x)) fun D σ H q => by
  obtain ⟨F, ρ, o, ρ', rel, e0, kk⟩ := q
  unfold evS at e0
  obtain ⟨ds, ρ1, h1, e0⟩ := bnd2_of e0
  refine ⟨F, ρ, ds, ρ1, rel, h1, fun F1 H1 J s0 w => ?_⟩
  obtain ⟨GG, YY, wk, wG, wY⟩ := w
  let Pv : Nat → L2.St → Hp → Prop := fun i σc Hc => ∃ Fc ρc, Step κ X.K F1 ρ1 σ H1 Fc ρc σc Hc ∧ (∀ k, k ∉ sSlots (.for_ g it b) → σc[k]? = σ[k]?) ∧ forL g (fun ρ => evSs Γ gl b ρ) (ds.drop i) ρc = some (o, ρ')
  refine for_it wk Pv ⟨F1, ρ1, .refl s0.rel, fun _ _ => rfl, e0⟩ (fun i σc Hc _ ⟨Fc, ρc, sc, _⟩ => wG H1 Fc ρc _ Hc (Alt.refl κ X.K _ _ _ _) sc) (fun i x σc Hc H2 hi ⟨Fc, ρc, sc, hk, hl⟩ y => ?_) fun σc Hc ⟨Fc, ρc, sc, hk, hl⟩ => ?_
  · obtain ⟨d, hd⟩ : ∃ d, ds[i]? = some d := ⟨ds[i], by simp [hi]⟩
    obtain ⟨F2, s2, hx⟩ := wY H1 Fc ρc _ Hc i x H2 d (Alt.refl κ X.K _ _ _ _) sc y hd
    have hdrop : ds.drop i = d :: ds.drop (i + 1) := by
      obtain ⟨_, e⟩ := List.getElem?_eq_some_iff.mp hd
      rw [← e]
      exact (List.drop_eq_getElem_cons hi)
    rw [hdrop] at hl
    unfold forL at hl
    obtain ⟨ρg, e1, hl⟩ := bnd1_of hl
    obtain ⟨ob, ρb, e2, hl⟩ := bnd2_of hl
    refine ⟨F2, ρc, d, ρg, s2.rel, hx, e1, fun σ2 s3 hout => ⟨F2, ρg, ob, ρb, s3.rel, e2, fun F4 σ4 H4 s4 hk4 => ?_⟩⟩
    have S := sc.trans (s2.trans (s3.trans s4))
    have hkk : ∀ k, k ∉ sSlots (.for_ g it b) → σ4[k]? = σ[k]? := fun k hn => by
      unfold sSlots at hn
      rw [List.mem_append, not_or] at hn
      rw [hk4 k hn.2, hout k hn.1, hk k (by unfold sSlots; rw [List.mem_append, not_or]; exact hn)]
    have fin := kk.after s0 (σ1 := σ) (fun _ _ => rfl) (fun k hk => hk)
    cases ob with
    | nx => exact ⟨F4, ρb, S, hkk, hl⟩
    | cont => exact ⟨F4, ρb, S, hkk, hl⟩
    | brk =>
      cases hl
      exact fin F4 σ4 H4 S hkk
    | ret w =>
      cases hl
      exact fun v r => fin F4 σ4 H4 S hkk v (r.early (sc.trans (s2.trans s3)))
  · rw [List.drop_length] at hl
    unfold forL at hl
    cases hl
    exact (kk.after s0 (σ1 := σ) (fun _ _ => rfl) (fun k hk => hk)) Fc σc Hc sc hk
theorem t_while (G : Good κ Γ nm gl L N X sc fp) {n : Nat} {c : E} {b : List S} {a : Expr} {body : List Stmt} {q : Pos} (hc : PT X a (TTv κ Γ gl X.K c)) (hb : PSs X body (TSsv κ Γ gl X.K b)) :
    PS X (.While a body [] q) (TSv κ Γ gl X.K (.while_ n c b)) := PS.imp (ps_while (by rw [G.xe]; exact .never) hc hb) fun D σ H q => by
  obtain ⟨F, ρ, o, ρ', rel, e0, kk⟩ := q
  unfold evS at e0
  refine ⟨fun m σc Hc => ∃ Fc ρc, Step κ X.K F ρ σ H Fc ρc σc Hc ∧ (∀ k, k ∉ ssSlots b → σc[k]? = σ[k]?) ∧ whileL (fun ρ => tstOf (evE Γ gl c ρ)) (fun ρ => evSs Γ gl b ρ) m ρc = some (o, ρ'), ⟨n, F, ρ, .refl rel, fun _ _ => rfl, e0⟩, ?_⟩
  rintro m σc Hc ⟨Fc, ρc, sc, hk, hl⟩
  cases m with
  | zero => unfold whileL at hl; cases hl
  | succ m =>
    unfold whileL at hl
    obtain ⟨bb, ρ1, h1, hl⟩ := bnd2_of hl
    refine ⟨Fc, ρc, bb, ρ1, sc.rel, h1, fun F1 H1 s1 => ?_⟩
    cases bb with
    | false =>
      cases hl
      exact kk F1 σc H1 (sc.trans s1) fun k hn => hk k (by unfold sSlots at hn; exact hn)
    | true =>
      obtain ⟨ob, ρb, e2, hl⟩ := bnd2_of hl
      refine ⟨fun σ' H' => ∃ Fc ρc, Step κ X.K F ρ σ H Fc ρc σ' H' ∧ (∀ k, k ∉ ssSlots b → σ'[k]? = σ[k]?) ∧ whileL (fun ρ => tstOf (evE Γ gl c ρ)) (fun ρ => evSs Γ gl b ρ) m ρc = some (o, ρ'), fun σ' H' z => ⟨m, Nat.lt_succ_self m, z⟩, F1, ρ1, ob, ρb, s1.rel, e2, fun F4 σ4 H4 s4 hk4 => ?_⟩
      have S := sc.trans (s1.trans s4)
      have hkk : ∀ k, k ∉ ssSlots b → σ4[k]? = σ[k]? := fun k hn => by rw [hk4 k hn, hk k hn]
      have hk5 : ∀ k, k ∉ sSlots (.while_ n c b) → σ4[k]? = σ[k]? := fun k hn => hkk k (by unfold sSlots at hn; exact hn)
      cases ob with
      | nx => exact ⟨F4, ρb, S, hkk, hl⟩
      | cont => exact ⟨F4, ρb, S, hkk, hl⟩
      | brk => cases hl; exact kk F4 σ4 H4 S hk5
      | ret w => cases hl; exact fun v r => kk F4 σ4 H4 S hk5 v (r.early (sc.trans s1))
theorem t_cons {s : S} {r : List S} {x : Stmt} {xs : List Stmt} (h1 : PS X x (TSv κ Γ gl X.K s)) (h2 : PSs X xs (TSsv κ Γ gl X.K r)) : PSs X (x :: xs) (TSsv κ Γ gl X.K (s :: r)) := PSs.imp (pss_cons h1 h2) fun D σ H q => by
  obtain ⟨F, ρ, o, ρ', rel, e0, kk⟩ := q
  unfold evSs at e0
  obtain ⟨o1, ρ1, h1, e0⟩ := bnd2_of e0
  refine ⟨F, ρ, o1, ρ1, rel, h1, fun F1 σ1 H1 s1 hk1 => ?_⟩
  have hk : ∀ k, k ∉ ssSlots (s :: r) → σ1[k]? = σ[k]? := fun k hn => hk1 k fun z => hn (by unfold ssSlots; exact List.mem_append_left _ z)
  cases o1 with
  | nx => exact ⟨F1, ρ1, o, ρ', s1.rel, e0, kk.after s1 hk fun k z => by unfold ssSlots; exact List.mem_append_right _ z⟩
  | brk => cases e0; exact kk F1 σ1 H1 s1 hk
  | cont => cases e0; exact kk F1 σ1 H1 s1 hk
  | ret w => cases e0; exact kk F1 σ1 H1 s1 hk
theorem t_nil : PSs X [] (TSsv κ Γ gl X.K []) := PSs.imp pss_nil fun D σ H q => by
  obtain ⟨F, ρ, o, ρ', rel, e0, kk⟩ := q
  unfold evSs at e0
  cases e0
  exact kk F σ H (.refl rel) fun _ _ => rfl
theorem Good.nox (G : Good κ Γ nm gl L N X sc fp) : Good κ Γ nm gl L N X.nox sc fp := ⟨G.hN, G.nd, G.hsc, G.calm, rfl, G.gd, G.room, G.tab, G.fn⟩
end
section
variable {κ : Cs} {Γ : Nat → Option Fn} {nm : Nm} {gl : Str → Option D} {L : Nat} {N : List Str}
mutual
theorem sndS : ∀ (s : S) (X : Cx) (sc : Scope) (fp : Str → Bool) (x : Stmt), sc.kind = .function → Good κ Γ nm gl L N X sc fp → agS N nm sc fp s x = true → PS X x (TSv κ Γ gl X.K s)
  | .asg (.name i) e, X, sc, fp, x, hk, G, h => by
    unfold agS at h
    split at h
    · simp only [Bool.and_eq_true, decide_eq_true_eq] at h
      exact t_asgN G hk h.1.1 h.1.2 h.2
    · cases h
  | .asg (.tup gs) e, X, sc, fp, x, hk, G, h => by
    unfold agS at h
    split at h
    · simp only [Bool.and_eq_true, decide_eq_true_eq] at h
      exact t_asgT G hk h.1.1.1 h.1.1.2 h.1.2 h.2
    · cases h
  | .asgS i j e, X, sc, fp, x, hk, G, h => by
    unfold agS at h
    split at h
    · simp only [Bool.and_eq_true, decide_eq_true_eq] at h
      obtain ⟨⟨⟨⟨⟨⟨⟨h1, h2⟩, h3⟩, h4⟩, h5⟩, h6⟩, h7⟩, h8⟩ := h
      exact t_asgS G h1 h2 h3 h4 h5 h6 h7 h8
    · cases h
  | .par i j a b, X, sc, fp, x, hk, G, h => by
    unfold agS at h
    split at h
    · simp only [Bool.and_eq_true, decide_eq_true_eq] at h
      obtain ⟨⟨⟨⟨⟨h1, h2⟩, h3⟩, h4⟩, h5⟩, h6⟩ := h
      exact t_par G hk h1 h2 h3 h4 h5 h6
    · cases h
  | .setix i ie e, X, sc, fp, x, hk, G, h => by
    unfold agS at h
    split at h
    · simp only [Bool.and_eq_true, decide_eq_true_eq] at h
      obtain ⟨⟨⟨⟨⟨⟨h1, h2⟩, h3⟩, h4⟩, h5⟩, h6⟩, h7⟩ := h
      exact t_setix G h1 h2 h3 h4 h5 h6 h7
    · cases h
  | .expr e, X, sc, fp, x, hk, G, h => by
    unfold agS at h
    split at h
    · simp only [Bool.and_eq_true] at h
      exact t_expr (sndE e X sc fp false _ G h.1).pe h.2
    · cases h
  | .app i e, X, sc, fp, x, hk, G, h => by
    unfold agS at h
    split at h
    · simp only [Bool.and_eq_true, decide_eq_true_eq] at h
      obtain ⟨⟨⟨⟨⟨⟨h1, h2⟩, h3⟩, h4⟩, h5⟩, h6⟩, h7⟩ := h
      subst h4
      exact t_app G h1 h2 h3 h5 h6 h7
    · cases h
  | .ext i e, X, sc, fp, x, hk, G, h => by
    unfold agS at h
    split at h
    · simp only [Bool.and_eq_true, decide_eq_true_eq] at h
      obtain ⟨⟨⟨⟨⟨⟨h1, h2⟩, h3⟩, h4⟩, h5⟩, h6⟩, h7⟩ := h
      subst h4
      exact t_ext G h1 h2 h3 h5 h6 h7
    · cases h
  | .ite c t f, X, sc, fp, x, hk, G, h => by
    unfold agS at h
    cases x with
    | If a b d q =>
      simp only [Bool.and_eq_true] at h
      exact t_ite (sndE c X sc fp true a G h.1.1).pt (sndSs t X sc fp b hk G h.1.2) (sndSs f X sc fp d hk G h.2)
    | _ => cases h
  | .for_ g it b, X, sc, fp, x, hk, G, h => by
    unfold agS at h
    split at h
    · simp only [Bool.and_eq_true] at h
      exact t_for G (sndI it X sc fp _ _ G h.1.1.1) h.1.1.2 (sndG g X sc fp _ G h.1.2) (sndSs b X sc fp _ hk G h.2)
    · cases h
  | .while_ n c b, X, sc, fp, x, hk, G, h => by
    unfold agS at h
    split at h
    · simp only [Bool.and_eq_true] at h
      exact t_while G (sndE c X sc fp true _ G h.1).pt (sndSs b X sc fp _ hk G h.2)
    · cases h
  | .ret e, X, sc, fp, x, hk, G, h => by
    unfold agS at h
    split at h
    · exact t_ret (sndE e X sc fp false _ G h).pe
    · cases h
  | .retN, X, sc, fp, x, hk, G, h => by
    unfold agS at h
    split at h
    · refine PS.imp ps_retN fun D σ H q => ?_
      obtain ⟨F, ρ, o, ρ', rel, e0, kk⟩ := q
      unfold evS at e0
      cases e0
      exact kk F σ H (.refl rel) (fun _ _ => rfl) _ (rep_non (κ := κ) (F := F))
    · cases h
  | .pass, X, sc, fp, x, hk, G, h => by
    unfold agS at h
    split at h
    · refine PS.imp ps_pass fun D σ H q => ?_
      obtain ⟨F, ρ, o, ρ', rel, e0, kk⟩ := q
      unfold evS at e0
      cases e0
      exact kk F σ H (.refl rel) fun _ _ => rfl
    · cases h
  | .never, X, sc, fp, x, hk, G, h => PS.imp ps_never fun D σ H q => by
    obtain ⟨F, ρ, o, ρ', rel, e0, kk⟩ := q
    unfold evS at e0
    cases e0
  | .brk, X, sc, fp, x, hk, G, h => by
    unfold agS at h
    split at h
    · refine PS.imp ps_break fun D σ H q => ?_
      obtain ⟨F, ρ, o, ρ', rel, e0, kk⟩ := q
      unfold evS at e0
      cases e0
      exact kk F σ H (.refl rel) fun _ _ => rfl
    · cases h
  | .cont, X, sc, fp, x, hk, G, h => by
    unfold agS at h
    split at h
    · refine PS.imp ps_continue fun D σ H q => ?_
      obtain ⟨F, ρ, o, ρ', rel, e0, kk⟩ := q
      unfold evS at e0
      cases e0
      exact kk F σ H (.refl rel) fun _ _ => rfl
    · cases h
  | .try_ b, X, sc, fp, x, hk, G, h => by
    unfold agS at h
    split at h
    · refine PS.imp (ps_try_thru0 (sndSs b X.nox sc fp _ hk G.nox h)) fun D σ H q => ?_
      obtain ⟨F, ρ, o, ρ', rel, e0, kk⟩ := q
      unfold evS at e0
      exact ⟨F, ρ, o, ρ', rel, e0, fun F' σ' H' s k => kk F' σ' H' s fun i hi => k i (by unfold sSlots at hi; exact hi)⟩
    · cases h
theorem sndSs : ∀ (s : List S) (X : Cx) (sc : Scope) (fp : Str → Bool) (x : List Stmt), sc.kind = .function → Good κ Γ nm gl L N X sc fp → agSs N nm sc fp s x = true → PSs X x (TSsv κ Γ gl X.K s)
  | [], X, sc, fp, [], hk, G, h => t_nil
  | [], X, sc, fp, _ :: _, hk, G, h => by unfold agSs at h; cases h
  | _ :: _, X, sc, fp, [], hk, G, h => by unfold agSs at h; cases h
  | s :: r, X, sc, fp, x :: xs, hk, G, h => by
    unfold agSs at h
    rw [Bool.and_eq_true] at h
    exact t_cons (sndS s X sc fp x hk G h.1) (sndSs r X sc fp xs hk G h.2)
end
end
end DT

end
section
/-! DT: a def by its form; tables of defs; a law's end. -/
namespace DT
open PySem PySem.Spec PyProof.Rows L2

section
variable {κ : Cs} {K : PySem.W.Frag} {F F' H H' : Hp} {ρ ρ' : Ro} {σ σ' : L2.St}
theorem app_at {α : Type} {l : List (Option α)} {m i : Nat} {x : α} (h : (l ++ List.replicate m none)[i]? = some (some x)) : l[i]? = some (some x) := by
  rcases Nat.lt_or_ge i l.length with z | z
  · rw [List.getElem?_append_left z] at h; exact h
  · rw [List.getElem?_append_right z, List.getElem?_replicate] at h
    split at h <;> cases h
theorem at_app {α : Type} {l : List (Option α)} {m i : Nat} {x : α} (h : l[i]? = some (some x)) : (l ++ List.replicate m none)[i]? = some (some x) := by
  obtain ⟨z, _⟩ := List.getElem?_eq_some_iff.mp h
  rw [List.getElem?_append_left z]; exact h
theorem own_app {m m' : Nat} {a : Addr} : Own (ρ ++ List.replicate m none) (σ ++ List.replicate m' none) a ↔ Own ρ σ a :=
  ⟨fun ⟨i, ds, h1, h2⟩ => ⟨i, ds, app_at h1, app_at h2⟩, fun ⟨i, ds, h1, h2⟩ => ⟨i, ds, at_app h1, at_app h2⟩⟩
theorem Rel.app (r : Rel κ K F ρ σ H) (m : Nat) : Rel κ K F (ρ ++ List.replicate m none) (σ ++ List.replicate m none) H := by
  refine ⟨r.le, by rw [List.length_append, List.length_append, r.len, List.length_replicate, List.length_replicate], fun i w h => ?_, fun i j ds es a h1 h2 h3 h4 => r.uno i j ds es a (app_at h1) (app_at h2) (app_at h3) (app_at h4), fun j ds a h1 h2 h3 => r.apart j ds a (app_at h1) (app_at h2) (own_app.mp h3)⟩
  obtain ⟨v, h1, h2⟩ := r.slot i w (app_at h)
  exact ⟨v, at_app h1, h2⟩
theorem args0_len : ∀ {ms : List Mode} {ds : List D} {ρ : Ro}, args0 ms ds = some ρ → ρ.length = ms.length
  | [], [], ρ, h => by unfold args0 at h; cases h; rfl
  | [], _ :: _, ρ, h => by unfold args0 at h; cases h
  | m :: ms, [], ρ, h => by cases m <;> (unfold args0 at h; cases h)
  | m :: ms, d :: ds, ρ, h => by
    have gen : ∀ w : Option W, (args0 ms ds).map (w :: ·) = some ρ → ρ.length = (m :: ms).length := fun w z => by
      cases q : args0 ms ds with
      | none => rw [q] at z; cases z
      | some r =>
        rw [q] at z
        cases z
        show r.length + 1 = ms.length + 1
        rw [args0_len q]
    cases m with
    | val => exact gen _ h
    | own => cases d <;> first | exact gen _ h | cases h
    | bor => cases d <;> first | exact gen _ h | cases h
theorem args0_own : ∀ {ms : List Mode} {ds : List D} {ρ : Ro}, args0 ms ds = some ρ → ∀ (j : Nat) (l : List D), ρ[j]? = some (some (W.own l)) → ms[j]? = some Mode.own
  | [], [], ρ, h, j, l, e => by unfold args0 at h; cases h; simp at e
  | [], _ :: _, ρ, h, j, l, e => by unfold args0 at h; cases h
  | m :: ms, [], ρ, h, j, l, e => by cases m <;> (unfold args0 at h; cases h)
  | m :: ms, d :: ds, ρ, h, j, l, e => by
    have gen : ∀ w : Option W, (args0 ms ds).map (w :: ·) = some ρ → ((∃ l, w = some (W.own l)) → m = .own) → (m :: ms)[j]? = some Mode.own := fun w z hw => by
      cases q : args0 ms ds with
      | none => rw [q] at z; cases z
      | some r =>
        rw [q] at z
        cases z
        cases j with
        | zero =>
          simp at e
          simp [hw ⟨l, e⟩]
        | succ j => simpa using args0_own q j l (by simpa using e)
    cases m with
    | val => exact gen _ h fun ⟨l, z⟩ => by cases z
    | own => exact by cases d <;> first | exact gen _ h fun _ => rfl | cases h
    | bor => exact by cases d <;> first | exact gen _ h fun ⟨l, z⟩ => by cases z | cases h
theorem outs0_own : ∀ {ms : List Mode} {ρ : Ro} {l : List (List D)}, outs0 ms ρ = some l → ∀ (j : Nat), ms[j]? = some Mode.own → ∃ d, ρ[j]? = some (some (W.own d))
  | [], ρ, l, h, j, e => by simp at e
  | m :: ms, [], l, h, j, e => by cases m <;> (unfold outs0 at h; cases h)
  | m :: ms, w :: ρ, l, h, j, e => by
    have tl : ∀ {l' : List (List D)}, outs0 ms ρ = some l' → j ≠ 0 → ∃ d, (w :: ρ)[j]? = some (some (W.own d)) := fun {l'} q hj => by
      cases j with
      | zero => exact absurd rfl hj
      | succ j => simpa using outs0_own q j (by simpa using e)
    cases m with
    | own =>
      cases w with
      | none => unfold outs0 at h; cases h
      | some w =>
        cases w with
        | own d =>
          have h : (outs0 ms ρ).map (d :: ·) = some l := h
          cases q : outs0 ms ρ with
          | none => rw [q] at h; cases h
          | some l' =>
            by_cases hj : j = 0
            · subst hj; exact ⟨d, rfl⟩
            · exact tl q hj
        | val _ => unfold outs0 at h; cases h
        | bor _ => unfold outs0 at h; cases h
    | val =>
      have h : outs0 ms ρ = some l := h
      by_cases hj : j = 0
      · subst hj; simp at e
      · exact tl h hj
    | bor =>
      have h : outs0 ms ρ = some l := h
      by_cases hj : j = 0
      · subst hj; simp at e
      · exact tl h hj
theorem outsR_of : ∀ {ms : List Mode} {ρ : Ro} {vs : List V} {outs : List (List D)}, outs0 ms ρ = some outs → ms.length = vs.length →
    (∀ (j : Nat) (l : List D), ms[j]? = some Mode.own → ρ[j]? = some (some (W.own l)) → ∃ v, vs[j]? = some v ∧ ∃ a us, v = V.ref a ∧ H' a = some (.lst us) ∧ F' a = none ∧ RepL κ F' l us) → OutsR κ F' H' ms vs outs
  | [], ρ, [], outs, h, hl, k => by unfold outs0 at h; cases h; trivial
  | [], ρ, _ :: _, outs, h, hl, k => by simp at hl
  | _ :: _, ρ, [], outs, h, hl, k => by simp at hl
  | m :: ms, [], v :: vs, outs, h, hl, k => by cases m <;> (unfold outs0 at h; cases h)
  | m :: ms, w :: ρ, v :: vs, outs, h, hl, k => by
    have hl' : ms.length = vs.length := by simpa using hl
    have k' : ∀ (j : Nat) (l : List D), ms[j]? = some Mode.own → ρ[j]? = some (some (W.own l)) → ∃ v, vs[j]? = some v ∧ ∃ a us, v = V.ref a ∧ H' a = some (.lst us) ∧ F' a = none ∧ RepL κ F' l us := fun j l h1 h2 => by
      obtain ⟨v', h3, h4⟩ := k (j + 1) l (by simpa using h1) (by simpa using h2)
      exact ⟨v', by simpa using h3, h4⟩
    cases m with
    | own =>
      cases w with
      | none => unfold outs0 at h; cases h
      | some w =>
        cases w with
        | own d =>
          have h : (outs0 ms ρ).map (d :: ·) = some outs := h
          cases q : outs0 ms ρ with
          | none => rw [q] at h; cases h
          | some l' =>
            rw [q] at h
            cases h
            obtain ⟨v', h3, h4⟩ := k 0 d rfl rfl
            cases h3
            exact ⟨h4, outsR_of q hl' k'⟩
        | val _ => unfold outs0 at h; cases h
        | bor _ => unfold outs0 at h; cases h
    | val =>
      have h : outs0 ms ρ = some outs := h
      have z := outsR_of h hl' k'
      cases outs <;> exact z
    | bor =>
      have h : outs0 ms ρ = some outs := h
      have z := outsR_of h hl' k'
      cases outs <;> exact z
end

/-- no list that is changed in place for the caller has its name assigned -/
def ownKept (ms : List Mode) (body : List S) : Bool := (List.range ms.length).all fun j => match ms[j]? with
  | some .own => !(ssSlots body).contains j
  | _ => true
section
variable {P : Program} {w : World} {K : PySem.W.Frag} {mg : Str → Option Value} {base : Heap} {κ : Cs} {Γ : Nat → Option Fn} {nm : Nm} {gl : Str → Option D}
/-- THE RULE: a def keeps the promise that its form computes -/
theorem fnG_of {x qual : Str} {st : Stmt} {f : Addr} {fd : FuncData} {N ps : List Str} {k : Nat} {fn : Fn} {body : List S} (T : Tab κ Γ nm gl k P w K mg base) (FU : Fun K x qual st f fd) (S : FnScope N ps (defScope st)) (hb : Binds K fd ps []) (hl : fn.modes.length = ps.length)
    (hag : agSs N nm (defScope st) (fun _ => true) body (defBody st) = true) (hkp : ownKept fn.modes body = true) (hrun : ∀ ds r, fn.run ds = some r → runFn Γ gl fn.modes N.length body ds = some r) : FnG P w K mg base κ nm.gb (k + 2) f fn := by
  intro A outer s H us vs Q hr hgd e0 hv hsp
  obtain ⟨oc, od, kV, doc, pm, an, cdv, ct, osl, efd, lk, hcd⟩ := FU.ex
  subst efd
  obtain ⟨F, ds, ρ0, wr, outs, a0, rel, run, fin⟩ := hsp
  have hlen : vs.length = ps.length := by
    have z1 := rel.len
    have z2 := args0_len a0
    rw [List.length_map] at z1
    omega
  have KX : K.In s.heap := e0.mod.kin.keeps fun b o e => (e0.bs b o e).1
  have lim : s.heap.NoLimit := e0.mod.nolimit.keeps fun b o e => (e0.bs b o e).1
  have hkind : ∀ y ∈ ps.zip us, (defScope st).names.lookup y.1 = some .local ∨ ((defScope st).names.lookup y.1 = some .cell ∧ ((cellsFrom (s.heap.objs.size + 1) (defScope st).names []).lookup y.1).isSome = true) := fun ⟨n, v⟩ hy => by
    rcases S.par n (List.of_mem_zip hy).1 with q | q
    · exact .inl q
    · exact .inr ⟨q, PySem.W.cellsFrom_some _ _ _ (.inl q)⟩
  have hul : us.length = ps.length := by rw [← hv.length]; exact hlen
  have hbd := hb s us KX (by rw [List.append_nil]; exact hul)
  rw [List.append_nil] at hbd
  refine codeAny_call_function hr.depth (KX _ _ lk) rfl S.co S.gen rfl (PySem.W.codeRec_of KX hcd) (hbd _ _ _ _ ?_)
  refine wpAny_newFunctionEnv_cells S.kind hkind fun env he s1 x => ?_
  subst he
  refine ⟨lim.keeps x.toInCall.keep, codeAny_func ?_⟩
  let X := cxOf CX0 P w K mg base N qual (defScope st) f cdv A outer s H (fun _ _ _ => False)
  have G : Good κ Γ nm gl k N X.nox (defScope st) (fun _ => true) := ⟨rfl, S.nd, rfl, rfl, rfl, hgd, hr.deeper _, T, fun _ _ => rfl⟩
  have I : Inv X [] (L2.start N vs) H s1 := inv_start S hr.hd e0 hlen hv x
  have hN : N.length - vs.length = N.length - fn.modes.length := by omega
  have rel1 : Rel κ K F (ρ0 ++ List.replicate (N.length - fn.modes.length) none) (L2.start N vs) H := by
    unfold L2.start
    rw [hN]
    exact rel.app _
  have hrun := hrun ds _ run
  unfold runFn at hrun
  obtain ⟨ρ0', a1, hrun⟩ := bnd1_of hrun
  rw [a0] at a1
  cases a1
  obtain ⟨o, ρe, ev, hrun⟩ := bnd2_of hrun
  obtain ⟨w', ow, hrun⟩ := bnd1_of hrun
  obtain ⟨l', oo, hrun⟩ := bnd1_of hrun
  cases hrun
  have key : ∀ F' σ' H' v, Step κ K F (ρ0 ++ List.replicate (N.length - fn.modes.length) none) (L2.start N vs) H F' ρe σ' H' → (∀ j, j ∉ ssSlots body → σ'[j]? = (L2.start N vs)[j]?) →
      RetR κ F (ρ0 ++ List.replicate (N.length - fn.modes.length) none) (L2.start N vs) H F' ρe σ' H' wr v → Q v H' := fun F' σ' H' v st hk rr => by
    have own_up : ∀ a, Own ρ0 (vs.map some) a → ∃ (j : Nat) (l : List D), fn.modes[j]? = some Mode.own ∧ ρe[j]? = some (some (W.own l)) ∧ σ'[j]? = some (some (V.ref a)) := fun a ⟨j, l, h1, h2⟩ => by
      have hm := args0_own a0 j l h1
      obtain ⟨l2, h3⟩ := outs0_own oo j hm
      refine ⟨j, l2, hm, h3, ?_⟩
      have hj : j ∉ ssSlots body := fun z => by
        unfold ownKept at hkp
        have z1 := List.all_eq_true.mp hkp j (List.mem_range.mpr (List.getElem?_eq_some_iff.mp hm).1)
        rw [hm] at z1
        simp only [Bool.not_eq_true'] at z1
        rw [List.contains_iff_mem.mpr z] at z1
        cases z1
      rw [hk j hj]
      unfold L2.start
      exact at_app h2
    have own_st : ∀ a, Own (ρ0 ++ List.replicate (N.length - fn.modes.length) none) (L2.start N vs) a → Own ρ0 (vs.map some) a := fun a z => by
      unfold L2.start at z
      exact own_app.mp z
    have own_e : ∀ a, Own ρ0 (vs.map some) a → Own ρe σ' a := fun a z => let ⟨j, l, _, h2, h3⟩ := own_up a z; ⟨j, l, h2, h3⟩
    refine fin F' H' v ⟨st.ex, st.rel.le, fun a o e => ?_, fun a o e n => st.keep a o e fun z => n (own_st a z), st.dom, ?_, ?_⟩
    · rcases st.new a o e with z | z | z
      · exact .inl z
      · exact .inr z
      · obtain ⟨_, _, z2⟩ := st.rel.own_at (own_e a (own_st a z))
        rw [z2] at e; cases e
    · refine outsR_of oo (by omega) fun j l h1 h2 => ?_
      obtain ⟨v', h3, a, us', h4, h5, h6, h7⟩ := st.rel.slot j _ h2
      subst h4
      have hj : j ∉ ssSlots body := fun z => by
        unfold ownKept at hkp
        have z1 := List.all_eq_true.mp hkp j (List.mem_range.mpr (List.getElem?_eq_some_iff.mp h1).1)
        rw [h1] at z1
        simp only [Bool.not_eq_true'] at z1
        rw [List.contains_iff_mem.mpr z] at z1
        cases z1
      rw [hk j hj] at h3
      unfold L2.start at h3
      have h3 := app_at h3
      rw [List.getElem?_map] at h3
      cases q : vs[j]? with
      | none => rw [q] at h3; cases h3
      | some v2 =>
        rw [q] at h3
        cases h3
        exact ⟨_, rfl, a, us', rfl, h5, h6, h7⟩
    · cases wr with
      | val d => exact rr
      | bor d => exact rr
      | own d =>
        obtain ⟨a, us', e1, e2, e3, e4, e5, e6⟩ := rr
        rcases e2 with e2 | e2
        · exact ⟨a, us', e1, e2, e3, e4, e6⟩
        · exact (e5 (own_e a (own_st a e2))).elim
  have ht := (sndSs body X.nox (defScope st) _ (defBody st) S.kind G hag).nox
  have hq : TSsv κ Γ gl X.nox.K body { nx := fun _ H' => Q .non H', rt := Q } (L2.start N vs) H := by
    refine ⟨F, _, o, ρe, rel1, ev, fun F' σ' H' st hk => ?_⟩
    cases o with
    | nx =>
      cases ow
      exact key F' σ' H' .non st hk (rep_non (κ := κ) (F := F'))
    | ret wr' =>
      cases ow
      exact fun v r => key F' σ' H' v st hk r
    | brk => cases ow
    | cont => cases ow
  refine wpAny_mono (ht.run [] s1 (L2.start N vs) H _ I hq) (fun fl s' hs => ?_) fun e s' hs => hs
  have fin : ∀ {σ' : L2.St} {H' : Hp} {v : V} {u : Value}, Inv X [] σ' H' s' → RelV v u → Q v H' → CE outer P w H s Q u s' :=
    fun {σ' H' v u} J rv q => ⟨v, H', J.os, J.bare, J.base, J.hok, rv, q⟩
  cases fl with
  | ret u =>
    obtain ⟨v, σ', H', J, rv, q⟩ := hs
    exact fin J rv q
  | next =>
    obtain ⟨σ', H', J, q⟩ := hs
    exact fin (v := V.non) (u := Value.none) J rfl q
  | brk =>
    obtain ⟨_, _, _, q⟩ := hs
    exact False.elim q
  | cont =>
    obtain ⟨_, _, _, q⟩ := hs
    exact False.elim q
end

/-! ### tables -/
theorem Tab.nil {P : Program} {w : World} {K : PySem.W.Frag} {mg : Str → Option Value} {base : Heap} {κ : Cs} {nm : Nm} {gl : Str → Option D} {L : Nat}
    (gls : ∀ x d, gl x = some d → ∃ u v, mg x = some u ∧ RelV v u ∧ ∀ F, Rep κ F d v) (blt : ∀ x ∈ bltNames, mg x = none)
    (fls : ∀ c, nm.fl c ≠ [] → nm.fl c = κ.fl c ∧ (nm.fl c).Nodup ∧ ∃ C, κ.ad c = some C ∧ Cls K C ∧ ∀ f ∈ nm.fl c, NoAttr K C f)
    (kts : ∀ x, nm.kt x ≠ [] → ∃ a, mg x = some (.ref a) ∧ (a == sysModules) = false ∧ ∀ z, KGet K w a z ((nm.kt x).lookup z))
    (ics : ∀ c, nm.ic c = true → ∃ C, κ.ad c = some C ∧ mg c = some (.ref C) ∧ C8.InsC K C) : Tab κ (fun f => ([] : List Fn)[f]?) nm gl L P w K mg base :=
  ⟨fun f fn h => by simp at h, gls, blt, fls, kts, ics⟩
/-- one more def -/
theorem Tab.put {P : Program} {w : World} {K : PySem.W.Frag} {mg : Str → Option Value} {base : Heap} {κ : Cs} {nm : Nm} {gl : Str → Option D} {L : Nat} {fs : List Fn} {fn : Fn}
    (T : Tab κ (fun f => fs[f]?) nm gl L P w K mg base) (F : KdOk κ nm L P w K mg base (nm.kd fs.length) fn) : Tab κ (fun f => (fs ++ [fn])[f]?) nm gl L P w K mg base := by
  refine ⟨fun f g h => ?_, T.gls, T.blt, T.fls, T.kts, T.ics⟩
  rcases Nat.lt_or_ge f fs.length with z | z
  · have h : (fs ++ [fn])[f]? = some g := h
    rw [List.getElem?_append_left z] at h
    exact T.fns f g h
  · have h : (fs ++ [fn])[f]? = some g := h
    rw [List.getElem?_append_right z] at h
    have e : f - fs.length = 0 := by
      rcases Nat.eq_zero_or_pos (f - fs.length) with q | q
      · exact q
      · rw [List.getElem?_eq_none (by simp only [List.length_singleton]; omega)] at h; cases h
    rw [e] at h
    cases h
    have e2 : f = fs.length := by omega
    subst e2
    exact F
theorem Tab.add {P : Program} {w : World} {K : PySem.W.Frag} {mg : Str → Option Value} {base : Heap} {κ : Cs} {nm : Nm} {gl : Str → Option D} {j k : Nat} {fs : List Fn} {fn : Fn}
    (T : Tab κ (fun f => fs[f]?) nm gl j P w K mg base) (l : j ≤ k) (F : KdOk κ nm k P w K mg base (nm.kd fs.length) fn) : Tab κ (fun f => (fs ++ [fn])[f]?) nm gl k P w K mg base := (T.mono l).put F

/-! ### a law's end -/
def lawFn (run : List D → Option (W × List (List D))) : Fn := ⟨[.bor], run⟩
theorem script_ok {κ : Cs} {K : PySem.W.Frag} {H : Hp} {a : Addr} {ns : List Int} {fn : Fn} (hm : fn.modes = [.bor]) (hS : SqL K H a (ns.map V.int)) (hr : fn.run [.lst (ns.map D.int)] = some (.val (.bl true), [])) : SpF κ K fn [.ref a] H (fun v _ => v = .bl true) := by
  have ri : ∀ l : List Int, RepL κ (fun _ => none) (l.map D.int) (l.map V.int) := fun l => by
    induction l with
    | nil => exact repL_nil.mpr rfl
    | cons x l ih => exact repL_cc.mpr ⟨rep_int x, ih⟩
  refine ⟨fun _ => none, _, [some (.bor (ns.map D.int))], _, _, by rw [hm]; rfl, ⟨fun b o z => (by cases z), rfl, fun i w h => ?_, fun i j ds es b h1 _ _ _ => ?_, fun j ds b h1 h2 h3 => ?_⟩, hr, fun F' H' v af => ?_⟩
  · cases i with
    | zero =>
      cases h
      exact ⟨.ref a, rfl, a, _, rfl, hS, ri ns⟩
    | succ i => simp at h
  · cases i with
    | zero => cases h1
    | succ i => simp at h1
  · obtain ⟨i, es, z, _⟩ := h3
    cases i with
    | zero => cases z
    | succ i => simp at z
  · have z : Rep κ F' (.bl true) v := af.res
    unfold Rep at z
    exact z
theorem law_callG {P : Program} {w : World} {K : PySem.W.Frag} {mg mb : Str → Option Value} {κ : Cs} {k : Nat} {fa a : Addr} {fn : Fn} {s₁ : Shared} {vs : List Value} {ns : List Int}
    (KX : K.In s₁.heap) (hns : s₁.heap.Ns mainGlobals mg) (hb : s₁.heap.Ns builtinsNs mb) (hbb : ∀ x : Str, x ≠ "__name__" → mb x = bootBuiltins x) (hlim : s₁.heap.NoLimit) (hg : s₁.gens = #[])
    (ha : s₁.heap.get? a = some { cls := .type "list", data := .seq vs.toArray }) (hi : IntsAre vs ns) (hl : ns.length ≤ sizeLine) (hr : Room k callerA)
    (F : ∀ base : Heap, K.In base → base.Ns mainGlobals mg → FnG P w K mg base κ true k fa fn)
    (hm : fn.modes = [.bor]) (hrun : fn.run [.lst (ns.map D.int)] = some (.val (.bl true), [])) :
    codeAny (model P w) callerA (.call (.ref fa) ⟨[.ref a], []⟩) (fun r s' => r = .ok (.ret (.bool true)) ∧ OldK s₁.heap s'.heap ∧ s'.os = s₁.os ∧ AllBare s'.gens) s₁ := by
  have rv := vals_ints hi
  have lenV := hi.length
  have core : ∀ H : Hp, Only H → SqL K H a (ns.map V.int) → HOk P w H s₁.heap → (∀ b, H b ≠ none → b = a) → (H a ≠ none → K.lookup a = none) →
      codeAny (model P w) callerA (.call (.ref fa) ⟨[.ref a], []⟩) (fun r s' => r = .ok (.ret (.bool true)) ∧ OldK s₁.heap s'.heap ∧ s'.os = s₁.os ∧ AllBare s'.gens) s₁ := by
    intro H hO hS hok hA hK
    have base_of : ∀ {b : Addr} {o : Obj}, s₁.heap.get? b = some o → H b = none → (hidT s₁.heap H).get? b = some o := fun e n => hidT_get e n
    have noA : ∀ {b : Addr} {o : Obj} {es : Array DictEntry} {ep : Nat}, s₁.heap.get? b = some o → o.data = .dict es ep → H b = none := fun {b o es ep} e d => by
      cases q : H b with
      | none => rfl
      | some u =>
        have e' : b = a := hA b (by rw [q]; simp)
        subst e'
        rw [ha] at e; cases e
        have d' : Data.seq vs.toArray _ = Data.dict es ep := d
        cases d'
    have nsK : ∀ {b : Addr} {m : Str → Option Value}, s₁.heap.Ns b m → (hidT s₁.heap H).Ns b m := fun {b m} ⟨o, es, ep, e, d, r⟩ => ⟨o, es, ep, base_of e (noA e d), d, r⟩
    have hKb : K.In (hidT s₁.heap H) := fun b o e => base_of (KX b o e) (by
      cases q : H b with
      | none => rfl
      | some u =>
        have e' : b = a := hA b (by rw [q]; simp)
        subst e'
        rw [hK (by rw [q]; simp)] at e; cases e)
    have hM : Mod K mg (hidT s₁.heap H) := ⟨hKb, nsK hns, ⟨mb, nsK hb, hbb⟩, let ⟨mc, h1, h2⟩ := hlim; ⟨mc, nsK h1, h2⟩⟩
    have e0 : Env0 P w K mg (hidT s₁.heap H) callerA [] s₁ H := ⟨rfl, hM, fun b o e => of_hidT e, Nat.le_of_eq (hidT_size _ _), trivial, fun b hb => absurd (show b ∈ ([] : List Addr) from hb) (by simp), hok, .of_eq hg⟩
    refine codeAny_mono (F _ hKb (nsK hns) callerA [] s₁ H [.ref a] [.ref a] (fun v _ => v = .bl true) hr (fun _ => rfl) e0 (.cons rfl .nil) (script_ok hm hS hrun)) fun r s' h => ?_
    cases r with
    | error e => exact False.elim h
    | ok fl =>
      cases fl with
      | next => exact False.elim h
      | brk => exact False.elim h
      | cont => exact False.elim h
      | ret u =>
        obtain ⟨v, H', os, bare, un, hok', r', q⟩ := h
        have q' : v = .bl true := q
        subst q'
        obtain rfl : u = Value.bool true := r'
        refine ⟨rfl, OldK.of_keep fun b o e => ?_, os, bare⟩
        cases q : H b with
        | none => exact un.keep b o e q (by intro z; exact absurd (show b ∈ ([] : List Addr) from z) (by simp)) (by simp)
        | some u =>
          rcases hO b with z | ⟨ob, xs, z⟩
          · rw [q] at z; cases z
          · have z2 := un.frzs b ob _ z
            obtain ⟨e1, _⟩ := hok b _ z
            obtain ⟨e2, _⟩ := hok' b _ z2
            rw [e] at e1; cases e1
            exact e2
  cases hk : K.lookup a with
  | some o =>
    have e := KX a o hk
    rw [ha] at e
    cases e
    refine core (fun _ => none) (fun _ => .inl rfl) (.inr ⟨_, vs.toArray, _, hk, rfl, rfl, rfl, by rw [List.size_toArray, lenV]; exact hl, by simpa using rv⟩) (fun b u z => by have z' : (none : Option HO) = some u := z; cases z') (fun b z => absurd rfl z) fun z => absurd rfl z
  | none =>
    refine core (fun b => if b = a then some (.frz { cls := .type "list", data := .seq vs.toArray } (.lst (ns.map V.int))) else none) (fun b => ?_) (.inl (.inr ⟨{ cls := .type "list", data := .seq vs.toArray }, if_pos rfl⟩)) (fun b u z => ?_) (fun b z => ?_) fun _ => hk
    · by_cases hb : b = a
      · exact .inr ⟨_, _, if_pos hb⟩
      · exact .inl (if_neg hb)
    · by_cases hb : b = a
      · have z' := (if_pos hb).symm.trans z
        cases z'
        subst hb
        exact ⟨ha, by rw [List.length_map]; exact hl, vs, _, rv, ha⟩
      · have z' := (if_neg hb).symm.trans z
        cases z'
    · by_cases hb : b = a
      · exact hb
      · exact absurd (if_neg hb) z
/-- the goal that k_head leaves -/
theorem walkG_of {l : PySem.W.OpenLaw} {n k : Nat} {q : Program} {loose : List Str} {XP : (Str → Option Value) → Heap → Prop} {YP : World → Heap → Prop} {d : DefRec} {K : Params → PySem.W.Frag}
    (hn : l.most = some n) (hn2 : n ≤ sizeLine) (hdf : d.params.defaults = []) (hr : Room k callerA)
    (hY : ∀ (w : World) (h : Heap), YP w h → (K w.params).In h)
    (F : ∀ (w : World) (mg : Str → Option Value) (fa : Addr) (h : Heap), (K w.params).In h → h.Ns mainGlobals mg → mg d.name = some (.ref fa) →
      ∃ (κ : Cs) (fn : Fn), fn.modes = [.bor] ∧ (∀ ns : List Int, ns.length ≤ n → fn.run [.lst (ns.map D.int)] = some (.val (.bl true), [])) ∧
        ∀ base : Heap, (K w.params).In base → base.Ns mainGlobals mg → FnG l.prog w (K w.params) mg base κ true k fa fn) :
    PySem.W.WalkO q loose XP YP l.row.toRowW d [] (fun f vs => PySem.call f vs) := by
  refine Att.attach_call hn hdf fun w s₀ s₁ mg mb fa o pm cd doc a vs ns G Y ho hd hcd hmg hobj hints hlen hg => ?_
  have KX := hY w _ Y
  obtain ⟨κ, fn, hm, hrun, hF⟩ := F w mg fa _ KX G.T.g hmg
  exact law_callG KX G.T.g G.T.b G.T.builtins G.T.nolimit hg hobj hints (Nat.le_trans hlen hn2) hr hF hm (hrun ns hlen)
end DT

end
section
/-! DT: a class whose __init__ looks at its values and keeps them: self.a, self.b = x, y with def __init__(self, x, *y). -/
namespace DT
open PySem PySem.Spec PyProof.Rows L2

section
variable {X : Cx} {ta : TE} {o : Expr} {f : Str} {pos : Pos}
/-- o.f as a target -/
def gFld (K : PySem.W.Frag) (ta : TE) (f : Str) : TG := fun y σ H Q => ta σ H fun x H2 => ∃ a C dx fs, x = .ref a ∧ H2 a = some (.ins C dx fs) ∧ Cls K C ∧ NoAttr K C f ∧ fs.length < 1000 ∧ Q σ (upd H2 a (.ins C dx (putF f y fs)))
theorem pg_fld (ha : PE X o ta) : PG X (.Attribute o f pos) (gFld X.K ta f) := by
  refine ⟨fun pins s σ H v u Q I r h => ?_⟩
  rw [assign_Attribute]
  refine wpAny_bind (wpAny_holding (thn (ha.run pins s σ H _ I h) fun ov s2 ⟨x, H2, I2, rx, a, C, dx, fs, ex, ea, c, n, l, q2⟩ => ?_))
  subst ex
  obtain rfl : ov = Value.ref a := rx
  exact wpAny_bind (wpAny_standAt (wpAny_bind (wpAny_holding (setattr_ok I2 ea c n l r fun s3 I3 => wpAny_release ⟨σ, _, I3, q2⟩))))
end

/-- what the class's call computes: the statements ahead, then the two values kept -/
def mkRun (Γ : Nat → Option Fn) (gl : Str → Option D) (n : Nat) (pre : List S) (c : Str) : List D → Option (W × List (List D))
  | .cls c' :: d :: ds => req (decide (c' = c) && decide (ds.length ≤ big)) (bnd2 (evSs Γ gl pre ([none, some (.val d), some (.val (.tup ds))] ++ List.replicate (n - 3) none)) fun o ρ => match o with
    | .nx => bnd1 ((ρ[1]?).join) fun v => bnd1 ((ρ[2]?).join) fun w => match v, w with
      | .val a, .val b => some (.val (.ins c [a, b]), [])
      | _, _ => none
    | _ => none)
  | _ => none
section
variable {P : Program} {w : World} {K : PySem.W.Frag} {mg : Str → Option Value} {base : Heap} {κ : Cs} {Γ : Nat → Option Fn} {nm : Nm} {gl : Str → Option D}
/-- the values alone, as they stand -/
theorem args0_vals : ∀ {n : Nat} {ds : List D} {ρ : Ro}, args0 (List.replicate n Mode.val) ds = some ρ → ds.length = n ∧ ρ = ds.map fun d => some (W.val d)
  | 0, [], ρ, h => by unfold args0 at h; cases h; exact ⟨rfl, rfl⟩
  | 0, _ :: _, ρ, h => by unfold args0 at h; cases h
  | n + 1, [], ρ, h => by rw [List.replicate_succ] at h; unfold args0 at h; cases h
  | n + 1, d :: ds, ρ, h => by
    rw [List.replicate_succ] at h
    have h : (args0 (List.replicate n Mode.val) ds).map (some (W.val d) :: ·) = some ρ := h
    cases q : args0 (List.replicate n Mode.val) ds with
    | none => rw [q] at h; cases h
    | some r =>
      rw [q] at h
      cases h
      obtain ⟨h1, h2⟩ := args0_vals q
      exact ⟨by simp [h1], by rw [h2]; rfl⟩
theorem outs0_vals : ∀ {n : Nat} {ρ : Ro} {l : List (List D)}, outs0 (List.replicate n Mode.val) ρ = some l → l = []
  | 0, _, _, h => by unfold outs0 at h; cases h; rfl
  | n + 1, [], _, h => by rw [List.replicate_succ] at h; unfold outs0 at h; cases h
  | n + 1, _ :: ρ, l, h => by rw [List.replicate_succ] at h; exact outs0_vals (n := n) h
theorem rel_vals {F : Hp} {σ : L2.St} {H : Hp} : ∀ {ds : List D} {ρ : Ro}, ρ = ds.map (fun d => some (W.val d)) → (∀ (i : Nat) (w : W), ρ[i]? = some (some w) → ∃ v, σ[i]? = some (some v) ∧ RepS κ K F H w v) → ∀ vs : List V, σ = vs.map some → σ.length = ρ.length → RepL κ F ds vs := by
  intro ds ρ e h vs ev hl
  subst e ev
  rw [List.length_map, List.length_map] at hl
  induction ds generalizing vs with
  | nil => cases vs with
    | nil => exact repL_nil.mpr rfl
    | cons _ _ => simp at hl
  | cons d ds ih =>
    cases vs with
    | nil => simp at hl
    | cons v vs =>
      refine repL_cc.mpr ⟨?_, ih vs (fun i w q => ?_) (by simpa using hl)⟩
      · obtain ⟨v', h1, h2⟩ := h 0 (.val d) rfl
        cases h1
        exact h2
      · obtain ⟨v', h1, h2⟩ := h (i + 1) w (by simpa using q)
        exact ⟨v', by simpa using h1, h2⟩
theorem seq_imp {s : S} {r : List S} {K : PySem.W.Frag} {D : Ends} {σ : L2.St} {H : Hp} (q : TSsv κ Γ gl K (s :: r) D σ H) : TSv κ Γ gl K s { D with nx := TSsv κ Γ gl K r D } σ H := by
  obtain ⟨F, ρ, o, ρ', rel, e0, kk⟩ := q
  unfold evSs at e0
  obtain ⟨o1, ρ1, h1, e0⟩ := bnd2_of e0
  refine ⟨F, ρ, o1, ρ1, rel, h1, fun F1 σ1 H1 s1 hk1 => ?_⟩
  have hk : ∀ k, k ∉ ssSlots (s :: r) → σ1[k]? = σ[k]? := fun k hn => hk1 k fun z => hn (by unfold ssSlots; exact List.mem_append_left _ z)
  cases o1 with
  | nx => exact ⟨F1, ρ1, o, ρ', s1.rel, e0, kk.after s1 hk fun k z => by unfold ssSlots; exact List.mem_append_right _ z⟩
  | brk => cases e0; exact kk F1 σ1 H1 s1 hk
  | cont => cases e0; exact kk F1 σ1 H1 s1 hk
  | ret w => cases e0; exact kk F1 σ1 H1 s1 hk
theorem nil_imp {K : PySem.W.Frag} {D : Ends} {σ : L2.St} {H : Hp} (q : TSsv κ Γ gl K [] D σ H) : D.nx σ H := by
  obtain ⟨F, ρ, o, ρ', rel, e0, kk⟩ := q
  unfold evSs at e0
  cases e0
  exact kk F σ H (.refl rel) fun _ _ => rfl
theorem pss_pre {L : Nat} {N : List Str} {X : Cx} {sc : Scope} {fp : Str → Bool} (hk : sc.kind = .function) (G : Good κ Γ nm gl L N X sc fp) {rest : List Stmt} {u : TS} (hr : PSs X rest u) :
    ∀ (pre : List S) (ss : List Stmt), agSs N nm sc fp pre ss = true → PSs X (ss ++ rest) (fun D σ H => TSsv κ Γ gl X.K pre { D with nx := u D } σ H)
  | [], [], h => PSs.imp hr fun D σ H q => nil_imp q
  | [], _ :: _, h => by unfold agSs at h; cases h
  | _ :: _, [], h => by unfold agSs at h; cases h
  | s :: r, x :: xs, h => by
    unfold agSs at h
    rw [Bool.and_eq_true] at h
    exact PSs.imp (pss_cons (sndS s X sc fp x hk G h.1) (pss_pre hk G hr r xs h.2)) fun D σ H q => seq_imp q
theorem outsR_vals {F' H' : Hp} : ∀ (vs : List V), OutsR κ F' H' (List.replicate vs.length Mode.val) vs []
  | [] => trivial
  | v :: vs => by rw [List.length_cons, List.replicate_succ]; exact outsR_vals vs
/-- an instance and its table laid ahead of __init__ -/
theorem env0_made {A : Around} {outer : List PySem.Env} {s : Shared} {H : Hp} {C : Addr} (e0 : Env0 P w K mg base A outer s H) :
    Env0 P w K mg base A outer { s with heap := (s.heap.push PySem.W.emptyDict).push (PySem.W.instObj C s.heap.objs.size) } (upd (upd H s.heap.objs.size (.own (s.heap.objs.size + 1))) (s.heap.objs.size + 1) (.ins C s.heap.objs.size [])) ∧
    Un (frs outer) [] H (upd (upd H s.heap.objs.size (.own (s.heap.objs.size + 1))) (s.heap.objs.size + 1) (.ins C s.heap.objs.size [])) s.heap ((s.heap.push PySem.W.emptyDict).push (PySem.W.instObj C s.heap.objs.size)) := by
  have e1 : (s.heap.push PySem.W.emptyDict).get? s.heap.objs.size = some PySem.W.emptyDict := Heap.get?_push_size s.heap rfl
  have e2 : ((s.heap.push PySem.W.emptyDict).push (PySem.W.instObj C s.heap.objs.size)).get? (s.heap.objs.size + 1) = some (PySem.W.instObj C s.heap.objs.size) := by
    have := Heap.get?_push_size (s.heap.push PySem.W.emptyDict) (o := PySem.W.instObj C s.heap.objs.size) rfl
    rwa [Heap.size_push] at this
  have e3 : (s.heap.push PySem.W.emptyDict).Ns s.heap.objs.size (fun _ => none) := ⟨PySem.W.emptyDict, #[], _, e1, rfl, (fun e he => absurd he (by simp)), fun _ => rfl⟩
  have hn : H s.heap.objs.size = none := e0.hok.fresh (Nat.le_refl _)
  have sz : (s.heap.push PySem.W.emptyDict).objs.size = s.heap.objs.size + 1 := Heap.size_push _ _
  have ne : s.heap.objs.size ≠ s.heap.objs.size + 1 := Nat.ne_of_lt (Nat.lt_succ_self _)
  have E1 := StX.env0_laid (o := PySem.W.emptyDict) (u := .own (s.heap.objs.size + 1)) e0 ⟨_, e1⟩
  have U1 := StX.un_laid (fs := frs outer) (s := s) (o := PySem.W.emptyDict) (u := .own (s.heap.objs.size + 1)) hn
  have hn2 : upd H s.heap.objs.size (.own (s.heap.objs.size + 1)) (s.heap.push PySem.W.emptyDict).objs.size = none := E1.hok.fresh (Nat.le_refl _)
  have E2 := StX.env0_laid (o := PySem.W.instObj C s.heap.objs.size) (u := .ins C s.heap.objs.size []) E1 (by
    show ObjOk P w _ _ (s.heap.push PySem.W.emptyDict).objs.size _
    rw [sz]
    exact ⟨by rw [upd_ne ne, upd_same], Nat.zero_le _, ne, e2, fun _ => none, (Heap.Ns1.of_empty e3).at fun o q => Heap.get?_push_of_some _ q, fun _ => True.intro, fun y hy => absurd rfl hy⟩)
  have U2 := StX.un_laid (fs := frs outer) (s := { s with heap := s.heap.push PySem.W.emptyDict }) (o := PySem.W.instObj C s.heap.objs.size) (u := .ins C s.heap.objs.size []) hn2
  have E2' : Env0 P w K mg base A outer { s with heap := (s.heap.push PySem.W.emptyDict).push (PySem.W.instObj C s.heap.objs.size) } (upd (upd H s.heap.objs.size (.own (s.heap.objs.size + 1))) (s.heap.push PySem.W.emptyDict).objs.size (.ins C s.heap.objs.size [])) := E2
  have U := U1.trans U2
  have U' : Un (frs outer) [] H (upd (upd H s.heap.objs.size (.own (s.heap.objs.size + 1))) (s.heap.push PySem.W.emptyDict).objs.size (.ins C s.heap.objs.size [])) s.heap ((s.heap.push PySem.W.emptyDict).push (PySem.W.instObj C s.heap.objs.size)) := U
  rw [sz] at E2' U'
  exact ⟨E2', U'⟩
theorem star_bnd {A : Around} {outer : List PySem.Env} {s : Shared} {H : Hp} {E : XK} {fd : FuncData} {args : List Value} {p0 p1 p2 : Str} {a0 a1 : Value} {x v1 : V} {ur : List Value} {rest : List V} (E3 : Env0 P w K mg base A outer s H) (hr : Vals rest ur) (hz : ur.length ≤ sizeLine)
    (hu : bindArgs fd ⟨args, []⟩ = (newTuple ur >>= fun t => pure ([p0, p1].zip [a0, a1] ++ [(p2, t)]))) (r0 : RelV x a0) (r1 : RelV v1 a1) :
    StX.Bnd CX0 P w K mg base fd ⟨args, []⟩ ([p0, p1] ++ [p2]) A outer s H E (fun xs H3 => ∃ (p : Addr) (o : Obj), o.dict = none ∧ H p = none ∧ xs = [x, v1, V.ref p] ∧ H3 = upd H p (tf o rest)) := by
  intro A' Ex Q' h
  rw [hu]
  refine wpAny_bind (wpAny_newTuple (wpAny_pure ?_) hz)
  have hfr : H s.heap.objs.size = none := E3.hok.fresh (Nat.le_refl _)
  have new : ObjOk P w (upd H s.heap.objs.size (tf { cls := .type "tuple", data := .seq ur.toArray } rest)) (s.heap.push { cls := .type "tuple", data := .seq ur.toArray }) s.heap.objs.size (tf { cls := .type "tuple", data := .seq ur.toArray } rest) :=
    tf_ok (n := 0) (by rw [hr.length]; exact hz) hr (Heap.get?_push_size _ rfl)
  exact h _ _ [x, v1, V.ref s.heap.objs.size] [a0, a1, Value.ref s.heap.objs.size] (StX.env0_laid E3 new) (StX.un_laid hfr) rfl (fun e s' z => z) (.cons r0 (.cons r1 (.cons rfl .nil))) rfl ⟨_, _, rfl, hfr, rfl, rfl⟩
theorem mk_fnG {qual : Str} {st : Stmt} {f C : Addr} {fd : FuncData} {N : List Str} {k n : Nat} {pre : List S} {ss : List Stmt} {c p0 p1 p2 fa fb : Str} {q1 q2 q3 q4 q5 q6 q7 q8 q9 : Pos} {k1 k2 : Nat} {run : List D → Option (W × List (List D))}
    (T : Tab κ Γ nm gl k P w K mg base) (FU : Fun K "__init__" qual st f fd) (S : FnScope N ([p0, p1] ++ [p2]) (defScope st))
    (hb : ∀ us rest : List Value, us.length = [p0, p1].length → bindArgs fd ⟨us ++ rest, []⟩ = (newTuple rest >>= fun t => pure ([p0, p1].zip us ++ [(p2, t)])))
    (hbody : defBody st = ss ++ [.Assign [.Tuple [.Attribute (.Name p0 q1) fa q2, .Attribute (.Name p0 q3) fb q4] k1 q5] (.Tuple [.Name p1 q6, .Name p2 q7] k2 q8) q9])
    (hag : agSs N nm (defScope st) (fun _ => true) pre ss = true) (hno : (!(ssSlots pre).contains 0 && !(ssSlots pre).contains 1 && !(ssSlots pre).contains 2) = true)
    (hv0 : isVis (defScope st) p0 = true) (hv1 : isVis (defScope st) p1 = true) (hv2 : isVis (defScope st) p2 = true) (ho : (okName p0 && okName p1 && okName p2) = true)
    (M : Mk K C f) (cl : Cls K C) (na : NoAttr K C fa) (nb : NoAttr K C fb) (hne : fa ≠ fb) (hC : κ.ad c = some C) (hfl : κ.fl c = [fa, fb]) (hgb : nm.gb = false)
    (hrun : ∀ ds r, run (.cls c :: ds) = some r → mkRun Γ gl N.length pre c (.cls c :: ds) = some r) : FnG P w K mg base κ false (k + 3) C (mkFn ⟨[], run⟩ c n) := by
  intro A outer s H us vs Q hr hgd e0 hv hsp
  obtain ⟨F, ds, ρ0, wr, outs, a0, rel, runq, fin⟩ := hsp
  obtain ⟨hdl, hρ⟩ := args0_vals a0
  have runq : (if ds.length = n then run (.cls c :: ds) else none) = some (wr, outs) := runq
  rw [if_pos hdl] at runq
  have hmk := hrun _ _ runq
  cases ds with
  | nil => unfold mkRun at hmk; cases hmk
  | cons d ds =>
    obtain ⟨oc, od, kV, doc, pm, an, cdv, ct, osl, efd, lk, hcd⟩ := FU.ex
    subst efd
    unfold mkRun at hmk
    obtain ⟨cz, hmk⟩ := req_of hmk
    simp only [Bool.and_eq_true, decide_eq_true_eq] at cz
    obtain ⟨o, ρe, ev, hmk⟩ := bnd2_of hmk
    have hsz : ds.length ≤ big := cz.2
    -- the values
    have hvs := rel_vals (K := K) hρ rel.slot vs rfl (by rw [← rel.len])
    obtain ⟨v1, rest, evs⟩ : ∃ v1 rest, vs = v1 :: rest := by
      cases vs with
      | nil => have := hvs.length; simp at this
      | cons v1 rest => exact ⟨v1, rest, rfl⟩
    subst evs
    obtain ⟨hd1, hds⟩ := repL_cc.mp hvs
    have hno : (ssSlots pre).contains 0 = false ∧ (ssSlots pre).contains 1 = false ∧ (ssSlots pre).contains 2 = false := by
      simp only [Bool.and_eq_true, Bool.not_eq_true'] at hno
      exact ⟨hno.1.1, hno.1.2, hno.2⟩
    have notin : ∀ {i : Nat}, (ssSlots pre).contains i = false → i ∉ ssSlots pre := fun {i} h z => by rw [List.contains_iff_mem.mpr z] at h; cases h
    obtain ⟨E2, un⟩ := env0_made (C := C) e0
    have KX : K.In s.heap := e0.mod.kin.keeps fun b o e => (e0.bs b o e).1
    have hdx : H s.heap.objs.size = none := e0.hok.fresh (Nat.le_refl _)
    have hx : H (s.heap.objs.size + 1) = none := e0.hok.fresh (Nat.le_succ _)
    have nxd : s.heap.objs.size ≠ s.heap.objs.size + 1 := Nat.ne_of_lt (Nat.lt_succ_self _)
    generalize ex : s.heap.objs.size + 1 = x at *
    generalize edx : s.heap.objs.size = dx at *
    -- the heap in which the body starts
    have E3 : Env0 P w K mg base (A.under (.builtin "type.__call__" ⟨.ref C :: us, []⟩)) outer _ _ := E2.make C us []
    have hr1 : Room (k + 2) (A.under (.builtin "type.__call__" ⟨.ref C :: us, []⟩)) := hr.make C us []
    cases hv with
    | @cons _ u1 _ ur rv1 rvr =>
      refine make_map (f := f) KX M.makes M.init (beq_iff_eq.mp M.fn) ?_
      rw [edx, ex]
      refine codeAny_mono (StX.run_bnd (CX := CX0) (ps := [p0, p1] ++ [p2]) (N := N) (k := k + 1) (E := fun _ _ _ => False) (Q := fun v H2 => v = .non ∧ Q (.ref x) H2) lk hcd S hr1 E3
        (star_bnd (x := V.ref x) (v1 := v1) E3 rvr (by rw [← rvr.length, ← hds.length]; exact big_le hsz) (hb [.ref x, u1] ur rfl) rfl rv1) fun s3 H3 xs ⟨p, o3, ho3, hp, exs, eH⟩ hr' => ?_) fun r s' hq => ?_
      · subst exs eH
        have nx0 : (upd (upd H dx (.own x)) x (.ins C dx [])) x = some (.ins C dx []) := upd_same
        have pnx : p ≠ x := fun z => by rw [z, nx0] at hp; cases hp
        have pnd : p ≠ dx := fun z => by rw [z, upd_ne nxd, upd_same] at hp; cases hp
        have hHp : H p = none := by rw [upd_ne pnx, upd_ne pnd] at hp; exact hp
        -- facts of the start
        have FH : ∀ a o, F a = some o → a ≠ x ∧ a ≠ dx ∧ a ≠ p := fun a o z => by
          have z := rel.le a o z
          exact ⟨ne_of_none z hx, ne_of_none z hdx, ne_of_none z hHp⟩
        let F3 : Hp := upd F p (tf o3 rest)
        let H3 : Hp := upd (upd (upd H dx (.own x)) x (.ins C dx [])) p (tf o3 rest)
        have hex3 : ∀ a o, F a = some o → F3 a = some o := fun a o z => by show upd F p _ a = _; rw [upd_ne (FH a o z).2.2]; exact z
        have hH3 : ∀ a o, H a = some o → H3 a = some o := fun a o z => by
          show upd (upd (upd H dx _) x _) p _ a = _
          rw [upd_ne (ne_of_none z hHp), upd_ne (ne_of_none z hx), upd_ne (ne_of_none z hdx)]; exact z
        have r1 : Rep κ F3 d v1 := Rep.mono hex3 _ _ hd1
        have r2 : Rep κ F3 (.tup ds) (.ref p) := by unfold Rep; exact ⟨p, o3, rest, rfl, ho3, upd_same, RepL.mono hex3 _ _ hds⟩
        have noW : ∀ (ρ : Ro), ρ = [none, some (W.val d), some (W.val (.tup ds))] ++ List.replicate (N.length - 3) none → ∀ (i : Nat) (y : W), ρ[i]? = some (some y) → (i = 1 ∧ y = .val d) ∨ (i = 2 ∧ y = .val (.tup ds)) := fun ρ e i y z => by
          subst e
          have z := app_at z
          match i, z with
          | 0, z => simp at z
          | 1, z => simp at z; exact .inl ⟨rfl, z.symm⟩
          | 2, z => simp at z; exact .inr ⟨rfl, z.symm⟩
          | _ + 3, z => simp at z
        have rel3 : Rel κ K F3 ([none, some (W.val d), some (W.val (.tup ds))] ++ List.replicate (N.length - 3) none) (L2.start N [V.ref x, v1, V.ref p]) H3 := by
          refine ⟨fun a o z => ?_, ?_, fun i y z => ?_, fun i j l1 l2 a z1 z2 z3 z4 => ?_, fun j l a z1 z2 z3 => ?_⟩
          · by_cases e : a = p
            · subst e
              have z : upd F a (tf o3 rest) a = some o := z
              rw [upd_same] at z
              show upd (upd (upd H dx _) x _) a _ a = _
              rw [upd_same]; exact z
            · have z : upd F p (tf o3 rest) a = some o := z
              rw [upd_ne e] at z
              exact hH3 a o (rel.le a o z)
          · unfold L2.start; simp
          · unfold L2.start
            rcases noW _ rfl i y z with ⟨e1, e2⟩ | ⟨e1, e2⟩
            · subst e1 e2; exact ⟨v1, rfl, r1⟩
            · subst e1 e2; exact ⟨.ref p, rfl, r2⟩
          · rcases noW _ rfl i _ z1 with ⟨_, e2⟩ | ⟨_, e2⟩ <;> cases e2
          · rcases noW _ rfl j _ z1 with ⟨_, e2⟩ | ⟨_, e2⟩ <;> cases e2
        have nown : ∀ a, ¬ Own ([none, some (W.val d), some (W.val (.tup ds))] ++ List.replicate (N.length - 3) none) (L2.start N [V.ref x, v1, V.ref p]) a := fun a ⟨i, l, z1, _⟩ => by
          rcases noW _ rfl i _ z1 with ⟨_, e2⟩ | ⟨_, e2⟩ <;> cases e2
        let X := cxOf CX0 P w K mg base N qual (defScope st) f cdv (A.under (.builtin "type.__call__" ⟨.ref C :: u1 :: ur, []⟩)) outer s3 H3 (fun _ _ _ => False)
        have G : Good κ Γ nm gl k N X.nox (defScope st) (fun _ => true) := ⟨rfl, S.nd, rfl, rfl, rfl, (fun z => by rw [hgb] at z; cases z), hr', T, fun _ _ => rfl⟩
        have hN : ∀ (i : Nat) (y : Str), [p0, p1, p2][i]? = some y → N[i]? = some y := fun i y z => by
          have e : N.take 3 = [p0, p1, p2] := S.pre
          rw [← e, List.getElem?_take] at z
          split at z
          · exact z
          · cases z
        simp only [Bool.and_eq_true] at ho
        have v0 : ∀ q, PE X.nox (.Name p0 q) (tVar 0) := fun q => pe_var (hN 0 _ rfl) (G.vis hv0) (okName_1 ho.1.1) (okName_2 ho.1.1)
        have v1' : ∀ q, PE X.nox (.Name p1 q) (tVar 1) := fun q => pe_var (hN 1 _ rfl) (G.vis hv1) (okName_1 ho.1.2) (okName_2 ho.1.2)
        have v2 : ∀ q, PE X.nox (.Name p2 q) (tVar 2) := fun q => pe_var (hN 2 _ rfl) (G.vis hv2) (okName_1 ho.2) (okName_2 ho.2)
        have last : PSs X.nox [.Assign [.Tuple [.Attribute (.Name p0 q1) fa q2, .Attribute (.Name p0 q3) fb q4] k1 q5] (.Tuple [.Name p1 q6, .Name p2 q7] k2 q8) q9] _ :=
          pss_one (ps_asg (pe_tup (pa_cons (v1' q6) (pa_cons (v2 q7) pa_nil))) (pg_tup rfl (pgs_cons (pg_fld (v0 q1)) (pgs_cons (pg_fld (v0 q3)) pgs_nil))) (by rfl) (swN_ok (sc := defScope st) (by simp [swN, swNames]) rfl S.kind))
        have ht := (pss_pre S.kind G last pre ss hag).nox
        refine ⟨_, by rw [hbody]; exact ht, ?_⟩
        refine ⟨F3, _, o, ρe, rel3, ev, fun F4 σ4 H4 st4 hk4 => ?_⟩
        cases o with
        | nx =>
          obtain ⟨y1, g1, hmk⟩ := bnd1_of hmk
          obtain ⟨y2, g2, hmk⟩ := bnd1_of hmk
          cases y1 with
          | val da =>
            cases y2 with
            | val db =>
              cases hmk
              obtain ⟨w1, s1, ra⟩ := st4.rel.slot 1 _ (slot_get g1)
              obtain ⟨w2, s2, rb⟩ := st4.rel.slot 2 _ (slot_get g2)
              have ra : Rep κ F4 da w1 := ra
              have rb : Rep κ F4 db w2 := rb
              have s0 : σ4[0]? = some (some (V.ref x)) := (hk4 0 (notin hno.1)).trans rfl
              have hx4 : H4 x = some (.ins C dx []) := st4.keep x _ (by show upd _ p _ x = _; rw [upd_ne pnx.symm]; exact nx0) (nown x)
              have hle : ∀ a o, F4 a = some o → H4 a = some o := st4.rel.le
              refine ⟨w1, s1, w2, s2, (by show 2 ≤ sizeLine; rw [sizeLine_eq]; decide), fun p' hp' => ?_⟩
              have xp' : x ≠ p' := ne_of_none hx4 hp'
              refine ⟨p', [w1, w2], rfl, .inl (.inl upd_same), rfl, w1, [w2], rfl, .ref x, s0, x, C, dx, [], rfl, by rw [upd_ne xp']; exact hx4, cl, na, by decide, w2, [], rfl, .ref x, s0, x, C, dx, _, rfl, upd_same, cl, nb, by show 1 < 1000; decide, rfl, rfl, ?_⟩
              have ep : putF fb w2 (putF fa w1 []) = [(fa, w1), (fb, w2)] := by
                show (if fa = fb then _ else (fa, w1) :: putF fb w2 []) = _
                rw [if_neg hne]
                rfl
              rw [ep, upd_upd]
              have hF4x : F4 x = none := by
                cases e : F4 x with
                | none => rfl
                | some o =>
                  rcases st4.new x o e with z | z | z
                  · have z : upd F p (tf o3 rest) x = some o := z
                    rw [upd_ne pnx.symm] at z
                    exact absurd rfl (FH x o z).1
                  · have z : upd _ p _ x = none := z
                    rw [upd_ne pnx.symm, nx0] at z
                    cases z
                  · exact absurd z (nown x)
              have ex4 : ∀ a o, F4 a = some o → upd F4 x (.ins C dx [(fa, w1), (fb, w2)]) a = some o := fun a o z => by
                rw [upd_ne (fun e => by rw [e, hF4x] at z; cases z)]; exact z
              refine fin (upd F4 x (.ins C dx [(fa, w1), (fb, w2)])) _ _ ⟨fun a o z => ex4 a o (st4.ex a o (hex3 a o z)), fun a o z => ?_, fun a o z => ?_, fun a o z _ => ?_, fun a z => ?_, ?_, ?_⟩
              · by_cases e : a = x
                · subst e
                  rw [upd_same] at z ⊢
                  exact z
                · rw [upd_ne e] at z ⊢
                  rw [upd_ne (ne_of_none (hle a o z) hp')]
                  exact hle a o z
              · by_cases e : a = x
                · subst e; exact .inr hx
                · rw [upd_ne e] at z
                  rcases st4.new a o z with z | z | z
                  · by_cases e2 : a = p
                    · subst e2; exact .inr hHp
                    · have z : upd F p (tf o3 rest) a = some o := z
                      rw [upd_ne e2] at z
                      exact .inl z
                  · right
                    cases q : H a with
                    | none => rfl
                    | some o' => have y := (hH3 a o' q).symm.trans z; cases y
                  · exact absurd z (nown a)
              · have z4 := st4.keep a o (hH3 a o z) (nown a)
                rw [upd_ne (ne_of_none z hx), upd_ne (ne_of_none z4 hp')]
                exact z4
              · cases q : H a with
                | none => exact absurd q z
                | some o =>
                  have z4 := st4.keep a o (hH3 a o q) (nown a)
                  rw [upd_ne (ne_of_none q hx), upd_ne (ne_of_none z4 hp'), z4]
                  intro y; cases y
              · show OutsR κ _ _ (List.replicate n Mode.val) _ []
                have en : n = (v1 :: rest).length := by rw [← hdl]; exact hvs.length
                rw [en]
                exact outsR_vals _
              · show Rep κ _ (.ins c [da, db]) (.ref x)
                unfold Rep
                exact ⟨x, C, dx, [w1, w2], rfl, hC, by rw [upd_same, hfl]; rfl, repL_cc.mpr ⟨Rep.mono ex4 _ _ ra, repL_cc.mpr ⟨Rep.mono ex4 _ _ rb, repL_nil.mpr rfl⟩⟩⟩
            | _ => cases hmk
          | _ => cases y2 <;> cases hmk
        | _ => cases hmk
      · cases r with
        | error e => exact hq
        | ok fl =>
          cases fl with
          | ret u =>
            obtain ⟨v, H', os, bare, un2, hok, rv, ev, q3⟩ := hq
            subst ev
            exact ⟨rv, .ref x, H', os, bare, un.trans un2, hok, rfl, q3⟩
          | next => exact False.elim hq
          | brk => exact False.elim hq
          | cont => exact False.elim hq
end
end DT

end
section
/-! DT: methods: the receiver is looked at first; tables of constants. -/
namespace DT
open PySem PySem.Spec PyProof.Rows L2
def glOf (l : List (Str × D)) : Str → Option D := fun x => l.lookup x
def insRun (c : Str) (r : List D → Option (W × List (List D))) : List D → Option (W × List (List D))
  | .ins c' fs :: ds => if c' = c then r (.ins c' fs :: ds) else none
  | _ => none
def clsRun (c : Str) (r : List D → Option (W × List (List D))) : List D → Option (W × List (List D))
  | .cls c' :: ds => if c' = c then r (.cls c' :: ds) else none
  | _ => none
def lenRun (r : List D → Option (W × List (List D))) (ds : List D) : Option (W × List (List D)) := match r ds with
  | some (.val (.int n), []) => if 0 ≤ n ∧ n < 2 ^ 63 then some (.val (.int n), []) else none
  | _ => none
theorem insRun_of {c : Str} {r : List D → Option (W × List (List D))} {ds : List D} {z : W × List (List D)} (h : insRun c r ds = some z) : r ds = some z := by
  unfold insRun at h
  split at h
  · split at h
    · exact h
    · cases h
  · cases h
theorem clsRun_of {c : Str} {r : List D → Option (W × List (List D))} {ds : List D} {z : W × List (List D)} (h : clsRun c r ds = some z) : r ds = some z := by
  unfold clsRun at h
  split at h
  · split at h
    · exact h
    · cases h
  · cases h
theorem lenRun_of {r : List D → Option (W × List (List D))} {ds : List D} {z : W × List (List D)} (h : lenRun r ds = some z) : r ds = some z := by
  unfold lenRun at h
  split at h
  · rename_i q
    split at h
    · rw [q]; exact h
    · cases h
  · cases h
def addRun (c : Str) (r : List D → Option (W × List (List D))) : List D → Option (W × List (List D))
  | [.ins c' fs, .tup ds] => if c' = c then r [.ins c' fs, .tup ds] else none
  | _ => none
theorem addRun_of {c : Str} {r : List D → Option (W × List (List D))} {ds : List D} {z : W × List (List D)} (h : addRun c r ds = some z) : r ds = some z := by
  unfold addRun at h
  split at h
  · split at h
    · exact h
    · cases h
  · cases h
theorem addRun_sh {c : Str} {r : List D → Option (W × List (List D))} {ds : List D} {z : W × List (List D)} (h : addRun c r ds = some z) : ∃ fs ts, ds = [.ins c fs, .tup ts] := by
  unfold addRun at h
  split at h
  · split at h
    · rename_i e
      subst e
      exact ⟨_, _, rfl⟩
    · cases h
  · cases h
theorem addF_of {c : Str} {r : List D → Option (W × List (List D))} : MethF ⟨[.val, .val], addRun c r⟩ c := by
  refine ⟨fun m hm => ?_, fun ds z h => ?_, fun d ds z h => ?_⟩
  · cases hm with
    | head => rfl
    | tail _ hm => cases hm with
      | head => rfl
      | tail _ hm => cases hm
  · obtain ⟨fs, ts, rfl⟩ := addRun_sh h
    rfl
  · obtain ⟨fs, ts, e⟩ := addRun_sh h
    cases e
    exact ⟨fs, rfl⟩
theorem addT_of {c : Str} {r : List D → Option (W × List (List D))} (ds : List D) (z : W × List (List D)) (h : addRun c r ds = some z) : ∃ d ts, ds = [d, .tup ts] := let ⟨fs, ts, e⟩ := addRun_sh h; ⟨_, ts, e⟩
theorem args0_len2 : ∀ {ms : List Mode} {ds : List D} {ρ : Ro}, args0 ms ds = some ρ → ds.length = ms.length
  | [], [], ρ, h => rfl
  | [], _ :: _, ρ, h => by unfold args0 at h; cases h
  | m :: ms, [], ρ, h => by cases m <;> (unfold args0 at h; cases h)
  | m :: ms, d :: ds, ρ, h => by
    have gen : ∀ w : Option W, (args0 ms ds).map (w :: ·) = some ρ → (d :: ds).length = (m :: ms).length := fun w z => by
      cases q : args0 ms ds with
      | none => rw [q] at z; cases z
      | some r => simp [args0_len2 q]
    cases m with
    | val => exact gen _ h
    | own => cases d <;> first | exact gen _ h | cases h
    | bor => cases d <;> first | exact gen _ h | cases h
theorem runFn_len {Γ : Nat → Option Fn} {gl : Str → Option D} {ms : List Mode} {n : Nat} {body : List S} {ds : List D} {r : W × List (List D)} (h : runFn Γ gl ms n body ds = some r) : ds.length = ms.length := by
  unfold runFn at h
  obtain ⟨ρ0, h1, _⟩ := bnd1_of h
  exact args0_len2 h1
theorem methF_of {c : Str} {ms : List Mode} {r : List D → Option (W × List (List D))} (hv : ∀ m ∈ ms, m = .val) (hl : ∀ ds z, r ds = some z → ds.length = ms.length) : MethF ⟨ms, insRun c r⟩ c := by
  refine ⟨hv, fun ds z h => hl ds z (insRun_of h), fun d ds z h => ?_⟩
  have h : insRun c r (d :: ds) = some z := h
  unfold insRun at h
  split at h
  · rename_i c' fs ds' e
    cases e
    split at h
    · rename_i e; subst e; exact ⟨fs, rfl⟩
    · cases h
  · cases h
theorem clsF_of {c : Str} {ms : List Mode} {r : List D → Option (W × List (List D))} (hv : ∀ m ∈ ms, m = .val) (hl : ∀ ds z, r ds = some z → ds.length = ms.length) : ClsF ⟨ms, clsRun c r⟩ c := by
  refine ⟨hv, fun ds z h => hl ds z (clsRun_of h), fun d ds z h => ?_⟩
  have h : clsRun c r (d :: ds) = some z := h
  unfold clsRun at h
  split at h
  · rename_i c' ds' e
    cases e
    split at h
    · rename_i e; subst e; rfl
    · cases h
  · cases h
theorem lenRun_int {r : List D → Option (W × List (List D))} {ds : List D} {z : W × List (List D)} (h : lenRun r ds = some z) : ∃ n : Int, z = (.val (.int n), []) ∧ 0 ≤ n ∧ n < 2 ^ 63 := by
  unfold lenRun at h
  split at h
  · rename_i n q
    split at h
    · rename_i c
      cases h
      exact ⟨n, rfl, c.1, c.2⟩
    · cases h
  · cases h
theorem mk_recv {Γ : Nat → Option Fn} {gl : Str → Option D} {n : Nat} {pre : List S} {c : Str} {d : D} {ds : List D} {r : W × List (List D)} (h : mkRun Γ gl n pre c (d :: ds) = some r) : d = .cls c := by
  unfold mkRun at h
  split at h
  · rename_i c' d' ds' e
    cases e
    obtain ⟨q, _⟩ := req_of h
    simp only [Bool.and_eq_true, decide_eq_true_eq] at q
    rw [q.1]
  · cases h
/-! ### tables of a module -/
def GlOk (κ : Cs) (mg : Str → Option Value) : List (Str × D) → Prop
  | [] => True
  | (x, d) :: r => (∃ u v, mg x = some u ∧ RelV v u ∧ ∀ F, Rep κ F d v) ∧ GlOk κ mg r
theorem glOf_ok {κ : Cs} {mg : Str → Option Value} : ∀ {l : List (Str × D)}, GlOk κ mg l → ∀ x d, glOf l x = some d → ∃ u v, mg x = some u ∧ RelV v u ∧ ∀ F, Rep κ F d v
  | [], _, x, d, h => by cases h
  | (y, e) :: r, hk, x, d, h => by
    have h : List.lookup x ((y, e) :: r) = some d := h
    rw [List.lookup_cons] at h
    split at h
    · rename_i q
      cases h
      rw [eq_of_beq q]
      exact hk.1
    · exact glOf_ok hk.2 x d h
def NoneAll (mg : Str → Option Value) : List Str → Prop
  | [] => True
  | x :: r => mg x = none ∧ NoneAll mg r
theorem noneAll_ok {mg : Str → Option Value} : ∀ {l : List Str}, NoneAll mg l → ∀ x ∈ l, mg x = none
  | [], _, x, h => by cases h
  | y :: r, hk, x, h => by
    rcases List.mem_cons.mp h with e | e
    · rw [e]; exact hk.1
    · exact noneAll_ok hk.2 x e
/-- the class Suite alone -/
def kS (C : Addr) : Cs := ⟨fun c => if c = "Suite" then some C else none, fun c => if c = "Suite" then ["first", "kept"] else []⟩
theorem kS_ad (C : Addr) : (kS C).ad "Suite" = some C := rfl
theorem kS_fl (C : Addr) : (kS C).fl "Suite" = (["first", "kept"] : List Str) := rfl
theorem gl_int {κ : Cs} {mg : Str → Option Value} {x : Str} {i : Int} {t : Tok} (h : mg x = some (.int i t)) : ∃ u v, mg x = some u ∧ RelV v u ∧ ∀ F, Rep κ F (.int i) v := ⟨_, .int i, h, ⟨_, rfl⟩, fun F => rep_int i⟩
theorem gl_str {κ : Cs} {mg : Str → Option Value} {x y : Str} {t : Tok} (h : mg x = some (.str y t)) : ∃ u v, mg x = some u ∧ RelV v u ∧ ∀ F, Rep κ F (.str y) v := ⟨_, .str y, h, ⟨_, rfl⟩, fun F => rep_str y⟩
theorem gl_cls {mg : Str → Option Value} {C : Addr} (h : mg "Suite" = some (.ref C)) : ∃ u v, mg "Suite" = some u ∧ RelV v u ∧ ∀ F, Rep (kS C) F (.cls "Suite") v := ⟨_, .ref C, h, rfl, fun F => by unfold Rep; exact ⟨C, rfl, rfl⟩⟩
theorem fl_none {κ : Cs} {K : PySem.W.Frag} {fl : Str → List Str} (h : fl = fun _ => []) : ∀ c, fl c ≠ [] → fl c = κ.fl c ∧ (fl c).Nodup ∧ ∃ C, κ.ad c = some C ∧ Cls K C ∧ ∀ f ∈ fl c, NoAttr K C f := fun c z => by rw [h] at z; exact absurd rfl z
theorem fl_suite {K : PySem.W.Frag} {C : Addr} {fl : Str → List Str} (h : fl = fun (c : Str) => if c = "Suite" then (["first", "kept"] : List Str) else []) (cl : Cls K C) (na : NoAttr K C "first") (nb : NoAttr K C "kept") :
    ∀ c, fl c ≠ [] → fl c = (kS C).fl c ∧ (fl c).Nodup ∧ ∃ C', (kS C).ad c = some C' ∧ Cls K C' ∧ ∀ f ∈ fl c, NoAttr K C' f := fun c z => by
  subst h
  by_cases e : c = "Suite"
  · subst e
    refine ⟨rfl, by decide, C, rfl, cl, fun f hf => ?_⟩
    have hf : f ∈ (["first", "kept"] : List Str) := hf
    rcases List.mem_cons.mp hf with e | e
    · rw [e]; exact na
    · rw [List.mem_singleton.mp e]; exact nb
  · exact absurd (if_neg e) z
/-- the entries of a written dict -/
def Ents : List DictEntry → List (Str × Int) → Prop
  | [], [] => True
  | e :: r, p :: s => (∃ t u, e.key = .str p.1 t ∧ e.val = .int p.2 u) ∧ Ents r s
  | _, _ => False
theorem ents_find {z : Str} : ∀ {l : List DictEntry} {tb : List (Str × Int)}, Ents l tb →
    (∀ i, tb.lookup z = some i → ∃ e u, l.find? (·.key.isStr z) = some e ∧ e.val = .int i u) ∧ (tb.lookup z = none → l.find? (·.key.isStr z) = none ∧ l.any (·.refKey) = false)
  | [], [], _ => ⟨fun i h => by simp at h, fun _ => ⟨rfl, rfl⟩⟩
  | e :: r, p :: s, h => by
    obtain ⟨⟨t, u, hk, hv⟩, hr⟩ := h
    obtain ⟨k, i0⟩ := p
    have ih := ents_find (z := z) hr
    have hs : e.key.isStr z = (k == z) := by rw [hk]; rfl
    cases hz : (z == k) with
    | true =>
      have ez : z = k := eq_of_beq hz
      subst ez
      refine ⟨fun i h => ?_, fun h => ?_⟩
      · rw [List.lookup_cons, hz] at h
        cases h
        exact ⟨e, u, by rw [List.find?_cons, hs]; simp, hv⟩
      · rw [List.lookup_cons, hz] at h
        cases h
    | false =>
      have hz2 : (k == z) = false := by
        cases q : (k == z) with
        | false => rfl
        | true => rw [eq_of_beq q] at hz; simp at hz
      have hs2 : e.key.isStr z = false := hs.trans hz2
      refine ⟨fun i h => ?_, fun h => ?_⟩
      · rw [List.lookup_cons, hz] at h
        obtain ⟨e', u', h1, h2⟩ := ih.1 i h
        exact ⟨e', u', by rw [List.find?_cons, hs2]; exact h1, h2⟩
      · rw [List.lookup_cons, hz] at h
        obtain ⟨h1, h2⟩ := ih.2 h
        refine ⟨by rw [List.find?_cons, hs2]; exact h1, ?_⟩
        rw [List.any_cons, h2, Bool.or_false]
        unfold DictEntry.refKey
        rw [hk]
theorem kget_all {K : PySem.W.Frag} {w : World} {a : Addr} {es : Array DictEntry} {n : Nat} {tb : List (Str × Int)} (hl : K.lookup a = some ⟨.type "dict", none, .dict es n, #[]⟩) (hk : PySem.W.KeysLit w.params es.toList) (h : Ents es.toList tb) (z : Str) : KGet K w a z (tb.lookup z) := by
  have f := ents_find (z := z) h
  cases q : tb.lookup z with
  | some i =>
    obtain ⟨e, u, h1, h2⟩ := f.1 i q
    refine ⟨es, n, some e.val, hl, hk, ?_, e.val, rfl, ?_⟩
    · unfold PySem.W.nsIn
      rw [hl]
      simp only [h1]
    · rw [h2]; exact ⟨_, rfl⟩
  | none =>
    obtain ⟨h1, h2⟩ := f.2 q
    refine ⟨es, n, none, hl, hk, ?_, rfl⟩
    unfold PySem.W.nsIn
    rw [hl]
    simp [h1, h2]
theorem kt_none {K : PySem.W.Frag} {w : World} {mg : Str → Option Value} {kt : Str → List (Str × Int)} (h : kt = fun _ => []) : ∀ x, kt x ≠ [] → ∃ a, mg x = some (.ref a) ∧ (a == sysModules) = false ∧ ∀ z, KGet K w a z ((kt x).lookup z) := fun c z => by rw [h] at z; exact absurd rfl z
theorem ic_none {κ : Cs} {K : PySem.W.Frag} {mg : Str → Option Value} {ic : Str → Bool} (h : ic = fun _ => false) : ∀ c, ic c = true → ∃ C, κ.ad c = some C ∧ mg c = some (.ref C) ∧ C8.InsC K C := fun c z => by rw [h] at z; cases z
theorem ic_suite {K : PySem.W.Frag} {C : Addr} {mg : Str → Option Value} {ic : Str → Bool} (h : ic = fun (c : Str) => decide (c = "Suite")) (m : mg "Suite" = some (.ref C)) (i : C8.InsC K C) : ∀ c, ic c = true → ∃ C', (kS C).ad c = some C' ∧ mg c = some (.ref C') ∧ C8.InsC K C' := fun c z => by
  subst h
  have e := of_decide_eq_true z
  subst e
  exact ⟨C, rfl, m, i⟩
theorem kt_one {K : PySem.W.Frag} {w : World} {mg : Str → Option Value} {kt : Str → List (Str × Int)} {n : Str} {tb : List (Str × Int)} {a : Addr} (h : kt = fun x => if x = n then tb else []) (m : mg n = some (.ref a)) (low : (a == sysModules) = false) (k : ∀ z, KGet K w a z (tb.lookup z)) :
    ∀ x, kt x ≠ [] → ∃ a, mg x = some (.ref a) ∧ (a == sysModules) = false ∧ ∀ z, KGet K w a z ((kt x).lookup z) := fun c z => by
  subst h
  by_cases e : c = n
  · subst e
    refine ⟨a, m, low, fun z => ?_⟩
    simpa using k z
  · exact absurd (if_neg e) z
theorem kit_self {K : PySem.W.Frag} {C : Addr} : PySem.W.kitOne K (.ref C) (.ref C) = some true := by
  unfold PySem.W.kitOne
  exact if_pos (by simp)
end DT

end
section
/-! The program's defs as forms (printed by ir.py from the linked text). -/
namespace DT
open PySem L2
def T_SIGNS : List (Str × Int) := [("0", 0), ("1", 1), ("2", 2), ("3", 3), ("4", 4)]
def N_numbers_in : List Str := ["words", "word"]
def nm_numbers_in : Nm := { kd := fun i => match i with  | _ => .non, gb := false, fl := fun _ => [], kt := fun x => if x = "SIGNS" then T_SIGNS else [], ic := fun _ => false }
def B_numbers_in : List S := [.ret (.bi .tuple [(.comp (.bi (.kget "SIGNS" T_SIGNS) [(.var 1), (.neg (.cst (.int 1)))]) (.name 1) (.seq (.var 0)) .nil [1])])]
def gl_numbers_in : Str → Option D := glOf []
def F_numbers_in : Fn := ⟨[.val], (runFn (fun f => ([] : List Fn)[f]?) gl_numbers_in [.val] 2 B_numbers_in)⟩

def N_words_in : List Str := ["part"]
def nm_words_in : Nm := { kd := fun i => match i with  | _ => .non, gb := false, fl := fun _ => [], kt := fun _ => [], ic := fun _ => false }
def B_words_in : List S := [.ret (.ife (.cmp .ne (.var 0) (.glob "NONE")) (.bm .split (.var 0) [(.cst (.str " "))]) (.lst []))]
def gl_words_in : Str → Option D := glOf [("NONE", (.str "-"))]
def F_words_in : Fn := ⟨[.val], (runFn (fun f => ([] : List Fn)[f]?) gl_words_in [.val] 1 B_words_in)⟩

def N_test_in : List Str := ["line", "parts", "writes", "fails", "word"]
def nm_test_in : Nm := { kd := fun i => match i with | 0 => .def_ "words_in" | 1 => .def_ "numbers_in" | _ => .non, gb := false, fl := fun _ => [], kt := fun _ => [], ic := fun _ => false }
def B_test_in : List S := [.asg (.name 1) (.bm .split (.var 0) [(.glob "BAR")]),
    .ite (.cmp .ne (.bi .len [(.var 1)]) (.cst (.int 3))) [.ret (.tup [])] [],
    .asg (.name 2) (.bi .tuple [(.comp (.call 1 [(.bm .split (.var 4) [(.cst (.str "="))])]) (.name 4) (.seq (.call 0 [(.ix (.var 1) (.cst (.int 0)))])) .nil [4])]),
    .asg (.name 3) (.bi .tuple [(.comp (.call 1 [(.signs (.var 4))]) (.name 4) (.seq (.call 0 [(.ix (.var 1) (.cst (.int 2)))])) .nil [4])]),
    .ret (.tup [(.var 2), (.call 1 [(.call 0 [(.ix (.var 1) (.cst (.int 1)))])]), (.ife (.cmp .eq (.ix (.var 1) (.cst (.int 2))) (.glob "ANY")) (.tup [(.tup [])]) (.var 3))])]
def gl_test_in : Str → Option D := glOf [("BAR", (.str " | ")), ("ANY", (.str "any"))]
def F_test_in : Fn := ⟨[.val], (runFn (fun f => ([F_words_in, F_numbers_in] : List Fn)[f]?) gl_test_in [.val] 5 B_test_in)⟩

def N_is_between : List Str := ["thing", "low", "high"]
def nm_is_between : Nm := { kd := fun i => match i with  | _ => .non, gb := false, fl := fun _ => [], kt := fun _ => [], ic := fun _ => false }
def B_is_between : List S := [.ret (.and (.bi .isInt [(.var 0)]) (.and (.not (.bi .isBool [(.var 0)])) (.chain .le .le (.var 1) (.var 0) (.var 2))))]
def gl_is_between : Str → Option D := glOf []
def F_is_between : Fn := ⟨[.val, .val, .val], (runFn (fun f => ([] : List Fn)[f]?) gl_is_between [.val, .val, .val] 3 B_is_between)⟩

def N_are_between : List Str := ["thing", "low", "high", "one"]
def nm_are_between : Nm := { kd := fun i => match i with | 0 => .def_ "is_between" | _ => .non, gb := false, fl := fun _ => [], kt := fun _ => [], ic := fun _ => false }
def B_are_between : List S := [.ret (.and (.bi .isTuple [(.var 0)]) (.bi .all [(.comp (.call 0 [(.var 3), (.var 1), (.var 2)]) (.name 3) (.seq (.var 0)) .nil [3])]))]
def gl_are_between : Str → Option D := glOf []
def F_are_between : Fn := ⟨[.val, .val, .val], (runFn (fun f => ([F_is_between] : List Fn)[f]?) gl_are_between [.val, .val, .val] 4 B_are_between)⟩

def N_is_record : List Str := ["thing"]
def nm_is_record : Nm := { kd := fun i => match i with | 0 => .def_ "are_between" | _ => .non, gb := false, fl := fun _ => [], kt := fun _ => [], ic := fun _ => false }
def B_is_record : List S := [.ret (.and (.call 0 [(.var 0), (.cst (.int 0)), (.glob "MOST_VALUE")]) (.chain .le .le (.cst (.int 1)) (.bi .len [(.var 0)]) (.glob "MOST_FIELDS")))]
def gl_is_record : Str → Option D := glOf [("MOST_VALUE", (.int 2)), ("MOST_FIELDS", (.int 5))]
def F_is_record : Fn := ⟨[.val], (runFn (fun f => ([F_are_between] : List Fn)[f]?) gl_is_record [.val] 1 B_is_record)⟩

def N_ascends : List Str := ["things", "one", "other"]
def nm_ascends : Nm := { kd := fun i => match i with  | _ => .non, gb := false, fl := fun _ => [], kt := fun _ => [], ic := fun _ => false }
def B_ascends : List S := [.ret (.bi .all [(.comp (.cmp .lt (.var 1) (.var 2)) (.tup [(.name 1), (.name 2)]) (.zip (.var 0) (.sl (.var 0) (.seq (.cst (.int 1))) .nil)) .nil [1, 2])])]
def gl_ascends : Str → Option D := glOf []
def F_ascends : Fn := ⟨[.val], (runFn (fun f => ([] : List Fn)[f]?) gl_ascends [.val] 3 B_ascends)⟩

def N_are_writes : List Str := ["thing", "fields", "pair"]
def nm_are_writes : Nm := { kd := fun i => match i with | 0 => .def_ "are_between" | 1 => .def_ "ascends" | _ => .non, gb := false, fl := fun _ => [], kt := fun _ => [], ic := fun _ => false }
def B_are_writes : List S := [.ite (.or (.not (.bi .isTuple [(.var 0)])) (.not (.bi .all [(.comp (.call 0 [(.var 2), (.cst (.int 0)), (.glob "MOST_FIELDS")]) (.name 2) (.seq (.var 0)) .nil [2])]))) [.ret (.cst (.bl false))] [],
    .ite (.not (.bi .all [(.comp (.and (.cmp .eq (.bi .len [(.var 2)]) (.cst (.int 2))) (.and (.cmp .lt (.ix (.var 2) (.cst (.int 0))) (.var 1)) (.cmp .le (.ix (.var 2) (.cst (.int 1))) (.glob "MOST_VALUE")))) (.name 2) (.seq (.var 0)) .nil [2])])) [.ret (.cst (.bl false))] [],
    .ret (.call 1 [(.comp (.ix (.var 2) (.cst (.int 0))) (.name 2) (.seq (.var 0)) .nil [2])])]
def gl_are_writes : Str → Option D := glOf [("MOST_FIELDS", (.int 5)), ("MOST_VALUE", (.int 2))]
def F_are_writes : Fn := ⟨[.val, .val], (runFn (fun f => ([F_are_between, F_ascends] : List Fn)[f]?) gl_are_writes [.val, .val] 3 B_are_writes)⟩

def N_is_test : List Str := ["thing", "fields", "reads", "fails", "values"]
def nm_is_test : Nm := { kd := fun i => match i with | 0 => .def_ "are_writes" | 1 => .def_ "are_between" | 2 => .def_ "ascends" | _ => .non, gb := false, fl := fun _ => [], kt := fun _ => [], ic := fun _ => false }
def B_is_test : List S := [.ite (.or (.not (.bi .isTuple [(.var 0)])) (.or (.cmp .ne (.bi .len [(.var 0)]) (.cst (.int 3))) (.not (.call 0 [(.ix (.var 0) (.cst (.int 0))), (.var 1)])))) [.ret (.cst (.bl false))] [],
    .asg (.tup [(.name 2), (.name 3)]) (.sl (.var 0) (.seq (.cst (.int 1))) .nil),
    .ite (.or (.not (.call 1 [(.var 2), (.cst (.int 0)), (.bin .sub (.var 1) (.cst (.int 1)))])) (.or (.cmp .gt (.bi .len [(.var 2)]) (.glob "MOST_READS")) (.not (.call 2 [(.var 2)])))) [.ret (.cst (.bl false))] [],
    .ite (.or (.not (.bi .isTuple [(.var 3)])) (.not (.bi .all [(.comp (.call 1 [(.var 4), (.cst (.int 0)), (.glob "MOST_VALUE")]) (.name 4) (.seq (.var 3)) .nil [4])]))) [.ret (.cst (.bl false))] [],
    .ret (.and (.bi .all [(.comp (.cmp .eq (.bi .len [(.var 4)]) (.bi .len [(.var 2)])) (.name 4) (.seq (.var 3)) .nil [4])]) (.call 2 [(.var 3)]))]
def gl_is_test : Str → Option D := glOf [("MOST_READS", (.int 3)), ("MOST_VALUE", (.int 2))]
def F_is_test : Fn := ⟨[.val, .val], (runFn (fun f => ([F_are_writes, F_are_between, F_ascends] : List Fn)[f]?) gl_is_test [.val, .val] 5 B_is_test)⟩

def N_joined : List Str := ["words"]
def nm_joined : Nm := { kd := fun i => match i with  | _ => .non, gb := false, fl := fun _ => [], kt := fun _ => [], ic := fun _ => false }
def B_joined : List S := [.ret (.ife (.cmp .ne (.var 0) (.lst [])) (.bm .join (.cst (.str " ")) [(.var 0)]) (.glob "NONE"))]
def gl_joined : Str → Option D := glOf [("NONE", (.str "-"))]
def F_joined : Fn := ⟨[.val], (runFn (fun f => ([] : List Fn)[f]?) gl_joined [.val] 1 B_joined)⟩

def N_line_of : List Str := ["test", "writes", "reads", "fails", "first", "last", "field", "value", "values"]
def nm_line_of : Nm := { kd := fun i => match i with | 0 => .def_ "joined" | _ => .non, gb := false, fl := fun _ => [], kt := fun _ => [], ic := fun _ => false }
def B_line_of : List S := [.asg (.tup [(.name 1), (.name 2), (.name 3)]) (.var 0),
    .asg (.name 4) (.call 0 [(.comp (.fstr [(.var 6), (.cst (.str "=")), (.var 7)]) (.tup [(.name 6), (.name 7)]) (.seq (.var 1)) .nil [6, 7])]),
    .asg (.name 5) (.call 0 [(.comp (.bm .join (.cst (.str "")) [(.comp (.bi .str [(.var 7)]) (.name 7) (.seq (.var 8)) .nil [7])]) (.name 8) (.seq (.var 3)) .nil [8])]),
    .ret (.bm .join (.glob "BAR") [(.lst [(.var 4), (.call 0 [(.comp (.bi .str [(.var 6)]) (.name 6) (.seq (.var 2)) .nil [6])]), (.ife (.cmp .eq (.var 3) (.tup [(.tup [])])) (.glob "ANY") (.var 5))])])]
def gl_line_of : Str → Option D := glOf [("BAR", (.str " | ")), ("ANY", (.str "any"))]
def F_line_of : Fn := ⟨[.val], (runFn (fun f => ([F_joined] : List Fn)[f]?) gl_line_of [.val] 9 B_line_of)⟩

def N_text_of : List Str := ["start", "tests", "lines", "test", "value", "line"]
def nm_text_of : Nm := { kd := fun i => match i with | 0 => .def_ "joined" | 1 => .def_ "line_of" | _ => .non, gb := false, fl := fun _ => [], kt := fun _ => [], ic := fun _ => false }
def B_text_of : List S := [.asg (.name 2) (.bin .add (.lst [(.bin .add (.glob "HEAD") (.call 0 [(.comp (.bi .str [(.var 4)]) (.name 4) (.seq (.var 0)) .nil [4])]))]) (.comp (.call 1 [(.var 3)]) (.name 3) (.seq (.var 1)) .nil [3])),
    .ret (.bm .join (.cst (.str "")) [(.comp (.bin .add (.var 5) (.cst (.str "\n"))) (.name 5) (.seq (.var 2)) .nil [5])])]
def gl_text_of : Str → Option D := glOf [("HEAD", (.str "start "))]
def F_text_of : Fn := ⟨[.val, .val], (runFn (fun f => ([F_joined, F_line_of] : List Fn)[f]?) gl_text_of [.val, .val] 6 B_text_of)⟩

def N_Suite_init : List Str := ["self", "start", "tests", "test"]
def nm_Suite_init : Nm := { kd := fun i => match i with | 0 => .def_ "is_record" | 1 => .def_ "is_test" | _ => .non, gb := false, fl := fun _ => [], kt := fun _ => [], ic := fun _ => false }
def B_Suite_init : List S := [.ite (.not (.call 0 [(.var 1)])) [.never] [],
    .ite (.not (.bi .all [(.comp (.call 1 [(.var 3), (.bi .len [(.var 1)])]) (.name 3) (.seq (.var 2)) .nil [3])])) [.never] [],
    .ite (.cmp .gt (.bi .len [(.var 2)]) (.glob "MOST_TESTS")) [.never] []]
def gl_Suite_init : Str → Option D := glOf [("MOST_TESTS", (.int 6))]
def F_Suite_mk : Fn := ⟨[], mkRun (fun f => ([F_is_record, F_is_test] : List Fn)[f]?) gl_Suite_init 4 B_Suite_init "Suite"⟩

def N_Suite_read : List Str := ["cls", "text", "first", "lines", "start", "tests", "line", "test"]
def nm_Suite_read : Nm := { kd := fun i => match i with | 0 => .def_ "numbers_in" | 1 => .def_ "test_in" | 2 => .def_ "is_record" | 3 => .def_ "is_test" | 4 => .def_ "text_of" | 5 => .mk "Suite" | _ => .non, gb := false, fl := fun _ => [], kt := fun _ => [], ic := fun _ => false }
def B_Suite_read : List S := [.ite (.or (.not (.bi .isStr [(.var 1)])) (.or (.not (.bm .startswith (.var 1) [(.glob "HEAD")])) (.not (.bm .endswith (.var 1) [(.cst (.str "\n"))])))) [.never] [],
    .asgS 2 3 (.bm .split (.sl (.var 1) .nil (.seq (.neg (.cst (.int 1))))) [(.cst (.str "\n"))]),
    .asg (.tup [(.name 4), (.name 5)]) (.tup [(.call 0 [(.bm .split (.sl (.var 2) (.seq (.bi .len [(.glob "HEAD")])) .nil) [(.cst (.str " "))])]), (.comp (.call 1 [(.var 6)]) (.name 6) (.seq (.var 3)) .nil [6])]),
    .ite (.or (.not (.call 2 [(.var 4)])) (.or (.not (.bi .all [(.comp (.call 3 [(.var 7), (.bi .len [(.var 4)])]) (.name 7) (.seq (.var 5)) .nil [7])])) (.cmp .gt (.bi .len [(.var 5)]) (.glob "MOST_TESTS")))) [.never] [],
    .ite (.cmp .ne (.call 4 [(.var 4), (.var 5)]) (.var 1)) [.never] [],
    .ret (.callm 5 (.var 0) [(.var 4), (.star (.var 5))])]
def gl_Suite_read : Str → Option D := glOf [("HEAD", (.str "start ")), ("MOST_TESTS", (.int 6))]
def F_Suite_read : Fn := ⟨[.val, .val], (clsRun "Suite" (runFn (fun f => ([F_numbers_in, F_test_in, F_is_record, F_is_test, F_text_of, F_Suite_mk] : List Fn)[f]?) gl_Suite_read [.val, .val] 8 B_Suite_read))⟩

def N_need_suite : List Str := ["thing"]
def nm_need_suite : Nm := { kd := fun i => match i with  | _ => .non, gb := false, fl := fun _ => [], kt := fun _ => [], ic := fun c => decide (c = "Suite") }
def B_need_suite : List S := [.ite (.not (.bi (.isIns "Suite") [(.var 0)])) [.never] []]
def gl_need_suite : Str → Option D := glOf []
def F_need_suite : Fn := ⟨[.val], (runFn (fun f => ([] : List Fn)[f]?) gl_need_suite [.val] 1 B_need_suite)⟩

def N_are_numbers : List Str := ["thing", "many", "number"]
def nm_are_numbers : Nm := { kd := fun i => match i with | 0 => .def_ "is_between" | _ => .non, gb := false, fl := fun _ => [], kt := fun _ => [], ic := fun _ => false }
def B_are_numbers : List S := [.ite (.or (.not (.bi .isTuple [(.var 0)])) (.not (.bi .all [(.comp (.call 0 [(.var 2), (.cst (.int 0)), (.bin .sub (.var 1) (.cst (.int 1)))]) (.name 2) (.seq (.var 0)) .nil [2])]))) [.ret (.cst (.bl false))] [],
    .ret (.cmp .eq (.bi .lenSet [(.var 0)]) (.bi .len [(.var 0)]))]
def gl_are_numbers : Str → Option D := glOf []
def F_are_numbers : Fn := ⟨[.val, .val], (runFn (fun f => ([F_is_between] : List Fn)[f]?) gl_are_numbers [.val, .val] 3 B_are_numbers)⟩

def N_Suite_len : List Str := ["self"]
def nm_Suite_len : Nm := { kd := fun i => match i with  | _ => .non, gb := false, fl := fun c => if c = "Suite" then ["first", "kept"] else [], kt := fun _ => [], ic := fun _ => false }
def B_Suite_len : List S := [.ret (.bi .len [(.fld "Suite" 1 (.var 0))])]
def gl_Suite_len : Str → Option D := glOf []
def F_Suite_len : Fn := ⟨[.val], (insRun "Suite" (lenRun (runFn (fun f => ([] : List Fn)[f]?) gl_Suite_len [.val] 1 B_Suite_len)))⟩

def N_need_row : List Str := ["suite", "thing"]
def nm_need_row : Nm := { kd := fun i => match i with | 0 => .def_ "need_suite" | 1 => .def_ "are_numbers" | 2 => .len "Suite" | _ => .non, gb := false, fl := fun _ => [], kt := fun _ => [], ic := fun _ => false }
def B_need_row : List S := [.expr (.call 0 [(.var 0)]),
    .ite (.not (.call 1 [(.var 1), (.callm 2 (.var 0) [])])) [.never] []]
def gl_need_row : Str → Option D := glOf []
def F_need_row : Fn := ⟨[.val, .val], (runFn (fun f => ([F_need_suite, F_are_numbers, F_Suite_len] : List Fn)[f]?) gl_need_row [.val, .val] 2 B_need_row)⟩

def N_Suite_start : List Str := ["self"]
def nm_Suite_start : Nm := { kd := fun i => match i with  | _ => .non, gb := false, fl := fun c => if c = "Suite" then ["first", "kept"] else [], kt := fun _ => [], ic := fun _ => false }
def B_Suite_start : List S := [.ret (.fld "Suite" 0 (.var 0))]
def gl_Suite_start : Str → Option D := glOf []
def F_Suite_start : Fn := ⟨[.val], (insRun "Suite" (runFn (fun f => ([] : List Fn)[f]?) gl_Suite_start [.val] 1 B_Suite_start))⟩

def N_written : List Str := ["test"]
def nm_written : Nm := { kd := fun i => match i with  | _ => .non, gb := false, fl := fun _ => [], kt := fun _ => [], ic := fun _ => false }
def B_written : List S := [.ret (.bi .dictOf [(.ix (.var 0) (.cst (.int 0)))])]
def gl_written : Str → Option D := glOf []
def F_written : Fn := ⟨[.val], (runFn (fun f => ([] : List Fn)[f]?) gl_written [.val] 1 B_written)⟩

def N_record_after : List Str := ["record", "test", "values", "field", "value"]
def nm_record_after : Nm := { kd := fun i => match i with | 0 => .def_ "written" | _ => .non, gb := false, fl := fun _ => [], kt := fun _ => [], ic := fun _ => false }
def B_record_after : List S := [.asg (.name 2) (.call 0 [(.var 1)]),
    .ret (.bi .tuple [(.comp (.bm .get (.var 2) [(.var 3), (.var 4)]) (.tup [(.name 3), (.name 4)]) (.enum (.var 0)) .nil [3, 4])])]
def gl_record_after : Str → Option D := glOf []
def F_record_after : Fn := ⟨[.val, .val], (runFn (fun f => ([F_written] : List Fn)[f]?) gl_record_after [.val, .val] 5 B_record_after)⟩

def N_Suite_getitem : List Str := ["self", "number"]
def nm_Suite_getitem : Nm := { kd := fun i => match i with | 0 => .def_ "is_between" | _ => .non, gb := false, fl := fun c => if c = "Suite" then ["first", "kept"] else [], kt := fun _ => [], ic := fun _ => false }
def B_Suite_getitem : List S := [.ite (.not (.call 0 [(.var 1), (.cst (.int 0)), (.bin .sub (.bi .len [(.fld "Suite" 1 (.var 0))]) (.cst (.int 1)))])) [.never] [],
    .ret (.ix (.fld "Suite" 1 (.var 0)) (.var 1))]
def gl_Suite_getitem : Str → Option D := glOf []
def F_Suite_getitem : Fn := ⟨[.val, .val], (insRun "Suite" (runFn (fun f => ([F_is_between] : List Fn)[f]?) gl_Suite_getitem [.val, .val] 2 B_Suite_getitem))⟩

def N_behind : List Str := ["suite", "row", "record", "number"]
def nm_behind : Nm := { kd := fun i => match i with | 0 => .prop "Suite" "start" | 1 => .def_ "record_after" | 2 => .item "Suite" | _ => .non, gb := false, fl := fun _ => [], kt := fun _ => [], ic := fun _ => false }
def B_behind : List S := [.asg (.name 2) (.callm 0 (.var 0) []),
    .for_ (.name 3) (.seq (.var 1)) [.asg (.name 2) (.call 1 [(.var 2), (.callm 2 (.var 0) [(.var 3)])])],
    .ret (.var 2)]
def gl_behind : Str → Option D := glOf []
def F_behind : Fn := ⟨[.val, .val], (runFn (fun f => ([F_Suite_start, F_record_after, F_Suite_getitem] : List Fn)[f]?) gl_behind [.val, .val] 4 B_behind)⟩

def N_record_behind : List Str := ["suite", "row"]
def nm_record_behind : Nm := { kd := fun i => match i with | 0 => .def_ "need_row" | 1 => .def_ "behind" | _ => .non, gb := false, fl := fun _ => [], kt := fun _ => [], ic := fun _ => false }
def B_record_behind : List S := [.expr (.call 0 [(.var 0), (.var 1)]),
    .ret (.call 1 [(.var 0), (.var 1)])]
def gl_record_behind : Str → Option D := glOf []
def F_record_behind : Fn := ⟨[.val, .val], (runFn (fun f => ([F_need_row, F_behind] : List Fn)[f]?) gl_record_behind [.val, .val] 2 B_record_behind)⟩

def N_Suite_text : List Str := ["self"]
def nm_Suite_text : Nm := { kd := fun i => match i with | 0 => .def_ "text_of" | _ => .non, gb := false, fl := fun c => if c = "Suite" then ["first", "kept"] else [], kt := fun _ => [], ic := fun _ => false }
def B_Suite_text : List S := [.ret (.call 0 [(.fld "Suite" 0 (.var 0)), (.fld "Suite" 1 (.var 0))])]
def gl_Suite_text : Str → Option D := glOf []
def F_Suite_text : Fn := ⟨[.val], (insRun "Suite" (runFn (fun f => ([F_text_of] : List Fn)[f]?) gl_Suite_text [.val] 1 B_Suite_text))⟩

end DT

end
section
/-! More of the program's defs as forms (printed by ir.py). -/
namespace DT
open PySem L2
def N_need_number : List Str := ["suite", "thing"]
def nm_need_number : Nm := { kd := fun i => match i with | 0 => .def_ "need_suite" | 1 => .def_ "is_between" | 2 => .len "Suite" | _ => .non, gb := false, fl := fun _ => [], kt := fun _ => [], ic := fun _ => false }
def B_need_number : List S := [.expr (.call 0 [(.var 0)]),
    .ite (.not (.call 1 [(.var 1), (.cst (.int 0)), (.bin .sub (.callm 2 (.var 0) []) (.cst (.int 1)))])) [.never] []]
def gl_need_number : Str → Option D := glOf []
def F_need_number : Fn := ⟨[.val, .val], (runFn (fun f => ([F_need_suite, F_is_between, F_Suite_len] : List Fn)[f]?) gl_need_number [.val, .val] 2 B_need_number)⟩

def N_is_row_of_others : List Str := ["suite", "number", "thing"]
def nm_is_row_of_others : Nm := { kd := fun i => match i with | 0 => .def_ "are_numbers" | 1 => .len "Suite" | _ => .non, gb := false, fl := fun _ => [], kt := fun _ => [], ic := fun _ => false }
def B_is_row_of_others : List S := [.ret (.and (.call 0 [(.var 2), (.callm 1 (.var 0) [])]) (.cmp .notin (.var 1) (.var 2)))]
def gl_is_row_of_others : Str → Option D := glOf []
def F_is_row_of_others : Fn := ⟨[.val, .val, .val], (runFn (fun f => ([F_are_numbers, F_Suite_len] : List Fn)[f]?) gl_is_row_of_others [.val, .val, .val] 3 B_is_row_of_others)⟩

def N_need_others : List Str := ["suite", "number", "thing"]
def nm_need_others : Nm := { kd := fun i => match i with | 0 => .def_ "need_number" | 1 => .def_ "is_row_of_others" | _ => .non, gb := false, fl := fun _ => [], kt := fun _ => [], ic := fun _ => false }
def B_need_others : List S := [.expr (.call 0 [(.var 0), (.var 1)]),
    .ite (.not (.call 1 [(.var 0), (.var 1), (.var 2)])) [.never] []]
def gl_need_others : Str → Option D := glOf []
def F_need_others : Fn := ⟨[.val, .val, .val], (runFn (fun f => ([F_need_number, F_is_row_of_others] : List Fn)[f]?) gl_need_others [.val, .val, .val] 3 B_need_others)⟩

def N_values_at : List Str := ["record", "fields", "field"]
def nm_values_at : Nm := { kd := fun i => match i with  | _ => .non, gb := false, fl := fun _ => [], kt := fun _ => [], ic := fun _ => false }
def B_values_at : List S := [.ret (.bi .tuple [(.comp (.ix (.var 0) (.var 2)) (.name 2) (.seq (.var 1)) .nil [2])])]
def gl_values_at : Str → Option D := glOf []
def F_values_at : Fn := ⟨[.val, .val], (runFn (fun f => ([] : List Fn)[f]?) gl_values_at [.val, .val] 3 B_values_at)⟩

def N_passes_at : List Str := ["record", "test"]
def nm_passes_at : Nm := { kd := fun i => match i with | 0 => .def_ "values_at" | _ => .non, gb := false, fl := fun _ => [], kt := fun _ => [], ic := fun _ => false }
def B_passes_at : List S := [.ret (.cmp .notin (.call 0 [(.var 0), (.ix (.var 1) (.cst (.int 1)))]) (.ix (.var 1) (.cst (.int 2))))]
def gl_passes_at : Str → Option D := glOf []
def F_passes_at : Fn := ⟨[.val, .val], (runFn (fun f => ([F_values_at] : List Fn)[f]?) gl_passes_at [.val, .val] 2 B_passes_at)⟩

def N_verdict_of : List Str := ["suite", "number", "row"]
def nm_verdict_of : Nm := { kd := fun i => match i with | 0 => .def_ "passes_at" | 1 => .def_ "behind" | 2 => .item "Suite" | _ => .non, gb := false, fl := fun _ => [], kt := fun _ => [], ic := fun _ => false }
def B_verdict_of : List S := [.ret (.call 0 [(.call 1 [(.var 0), (.var 2)]), (.callm 2 (.var 0) [(.var 1)])])]
def gl_verdict_of : Str → Option D := glOf []
def F_verdict_of : Fn := ⟨[.val, .val, .val], (runFn (fun f => ([F_passes_at, F_behind, F_Suite_getitem] : List Fn)[f]?) gl_verdict_of [.val, .val, .val] 3 B_verdict_of)⟩

def N_verdict : List Str := ["suite", "number", "row"]
def nm_verdict : Nm := { kd := fun i => match i with | 0 => .def_ "need_others" | 1 => .def_ "verdict_of" | _ => .non, gb := false, fl := fun _ => [], kt := fun _ => [], ic := fun _ => false }
def B_verdict : List S := [.expr (.call 0 [(.var 0), (.var 1), (.var 2)]),
    .ret (.call 1 [(.var 0), (.var 1), (.var 2)])]
def gl_verdict : Str → Option D := glOf []
def F_verdict : Fn := ⟨[.val, .val, .val], (runFn (fun f => ([F_need_others, F_verdict_of] : List Fn)[f]?) gl_verdict [.val, .val, .val] 3 B_verdict)⟩

def N_does_write : List Str := ["suite", "number", "field", "pair"]
def nm_does_write : Nm := { kd := fun i => match i with | 0 => .item "Suite" | _ => .non, gb := false, fl := fun _ => [], kt := fun _ => [], ic := fun _ => false }
def B_does_write : List S := [.ret (.bi .any [(.comp (.cmp .eq (.ix (.var 3) (.cst (.int 0))) (.var 2)) (.name 3) (.seq (.ix (.callm 0 (.var 0) [(.var 1)]) (.cst (.int 0)))) .nil [3])])]
def gl_does_write : Str → Option D := glOf []
def F_does_write : Fn := ⟨[.val, .val, .val], (runFn (fun f => ([F_Suite_getitem] : List Fn)[f]?) gl_does_write [.val, .val, .val] 4 B_does_write)⟩

def N_last_writer : List Str := ["suite", "row", "field", "found", "number"]
def nm_last_writer : Nm := { kd := fun i => match i with | 0 => .def_ "does_write" | _ => .non, gb := false, fl := fun _ => [], kt := fun _ => [], ic := fun _ => false }
def B_last_writer : List S := [.asg (.name 3) (.comp (.var 4) (.name 4) (.seq (.var 1)) (.call 0 [(.var 0), (.var 4), (.var 2)]) [4]),
    .ret (.ife (.cmp .ne (.var 3) (.lst [])) (.ix (.var 3) (.neg (.cst (.int 1)))) (.neg (.cst (.int 1))))]
def gl_last_writer : Str → Option D := glOf []
def F_last_writer : Fn := ⟨[.val, .val, .val], (runFn (fun f => ([F_does_write] : List Fn)[f]?) gl_last_writer [.val, .val, .val] 5 B_last_writer)⟩

def N_sources_of : List Str := ["suite", "number", "row", "field"]
def nm_sources_of : Nm := { kd := fun i => match i with | 0 => .item "Suite" | 1 => .def_ "last_writer" | _ => .non, gb := false, fl := fun _ => [], kt := fun _ => [], ic := fun _ => false }
def B_sources_of : List S := [.ret (.bi .tuple [(.comp (.call 1 [(.var 0), (.var 2), (.var 3)]) (.name 3) (.seq (.ix (.callm 0 (.var 0) [(.var 1)]) (.cst (.int 1)))) .nil [3])])]
def gl_sources_of : Str → Option D := glOf []
def F_sources_of : Fn := ⟨[.val, .val, .val], (runFn (fun f => ([F_Suite_getitem, F_last_writer] : List Fn)[f]?) gl_sources_of [.val, .val, .val] 4 B_sources_of)⟩

def N_sources : List Str := ["suite", "number", "row"]
def nm_sources : Nm := { kd := fun i => match i with | 0 => .def_ "need_others" | 1 => .def_ "sources_of" | _ => .non, gb := false, fl := fun _ => [], kt := fun _ => [], ic := fun _ => false }
def B_sources : List S := [.expr (.call 0 [(.var 0), (.var 1), (.var 2)]),
    .ret (.call 1 [(.var 0), (.var 1), (.var 2)])]
def gl_sources : Str → Option D := glOf []
def F_sources : Fn := ⟨[.val, .val, .val], (runFn (fun f => ([F_need_others, F_sources_of] : List Fn)[f]?) gl_sources [.val, .val, .val] 3 B_sources)⟩

def N_verdicts_of : List Str := ["record", "tests", "row", "found", "number"]
def nm_verdicts_of : Nm := { kd := fun i => match i with | 0 => .def_ "passes_at" | 1 => .def_ "record_after" | _ => .non, gb := false, fl := fun _ => [], kt := fun _ => [], ic := fun _ => false }
def B_verdicts_of : List S := [.asg (.name 3) (.lst []),
    .for_ (.name 4) (.seq (.var 2)) [.app 3 (.call 0 [(.var 0), (.ix (.var 1) (.var 4))]),
    .asg (.name 0) (.call 1 [(.var 0), (.ix (.var 1) (.var 4))])],
    .ret (.bi .tuple [(.var 3)])]
def gl_verdicts_of : Str → Option D := glOf []
def F_verdicts_of : Fn := ⟨[.val, .val, .val], (runFn (fun f => ([F_passes_at, F_record_after] : List Fn)[f]?) gl_verdicts_of [.val, .val, .val] 5 B_verdicts_of)⟩

def N_Suite_call : List Str := ["self", "row"]
def nm_Suite_call : Nm := { kd := fun i => match i with | 0 => .def_ "are_numbers" | 1 => .def_ "verdicts_of" | _ => .non, gb := false, fl := fun c => if c = "Suite" then ["first", "kept"] else [], kt := fun _ => [], ic := fun _ => false }
def B_Suite_call : List S := [.ite (.not (.call 0 [(.var 1), (.bi .len [(.fld "Suite" 1 (.var 0))])])) [.never] [],
    .ret (.call 1 [(.fld "Suite" 0 (.var 0)), (.fld "Suite" 1 (.var 0)), (.var 1)])]
def gl_Suite_call : Str → Option D := glOf []
def F_Suite_call : Fn := ⟨[.val, .val], (insRun "Suite" (runFn (fun f => ([F_are_numbers, F_verdicts_of] : List Fn)[f]?) gl_Suite_call [.val, .val] 2 B_Suite_call))⟩

def N_Suite_tests : List Str := ["self"]
def nm_Suite_tests : Nm := { kd := fun i => match i with  | _ => .non, gb := false, fl := fun c => if c = "Suite" then ["first", "kept"] else [], kt := fun _ => [], ic := fun _ => false }
def B_Suite_tests : List S := [.ret (.fld "Suite" 1 (.var 0))]
def gl_Suite_tests : Str → Option D := glOf []
def F_Suite_tests : Fn := ⟨[.val], (insRun "Suite" (runFn (fun f => ([] : List Fn)[f]?) gl_Suite_tests [.val] 1 B_Suite_tests))⟩

def N_turned : List Str := ["suite", "passes", "found", "one", "other"]
def nm_turned : Nm := { kd := fun i => match i with | 0 => .len "Suite" | 1 => .def_ "verdict_of" | _ => .non, gb := false, fl := fun _ => [], kt := fun _ => [], ic := fun _ => false }
def B_turned : List S := [.asg (.name 2) (.lst []),
    .for_ (.name 3) (.rng1 (.callm 0 (.var 0) [])) [.for_ (.name 4) (.rng1 (.callm 0 (.var 0) [])) [.ite (.and (.cmp .ne (.var 3) (.var 4)) (.chain .eq .ne (.call 1 [(.var 0), (.var 4), (.tup [])]) (.var 1) (.call 1 [(.var 0), (.var 4), (.tup [(.var 3)])]))) [.app 2 (.tup [(.var 3), (.var 4)])] []]],
    .ret (.bi .tuple [(.var 2)])]
def gl_turned : Str → Option D := glOf []
def F_turned : Fn := ⟨[.val, .val], (runFn (fun f => ([F_Suite_len, F_verdict_of] : List Fn)[f]?) gl_turned [.val, .val] 5 B_turned)⟩

def N_spoilers : List Str := ["suite"]
def nm_spoilers : Nm := { kd := fun i => match i with | 0 => .def_ "need_suite" | 1 => .def_ "turned" | _ => .non, gb := false, fl := fun _ => [], kt := fun _ => [], ic := fun _ => false }
def B_spoilers : List S := [.expr (.call 0 [(.var 0)]),
    .ret (.call 1 [(.var 0), (.cst (.bl true))])]
def gl_spoilers : Str → Option D := glOf []
def F_spoilers : Fn := ⟨[.val], (runFn (fun f => ([F_need_suite, F_turned] : List Fn)[f]?) gl_spoilers [.val] 1 B_spoilers)⟩

def N_helpers : List Str := ["suite"]
def nm_helpers : Nm := { kd := fun i => match i with | 0 => .def_ "need_suite" | 1 => .def_ "turned" | _ => .non, gb := false, fl := fun _ => [], kt := fun _ => [], ic := fun _ => false }
def B_helpers : List S := [.expr (.call 0 [(.var 0)]),
    .ret (.call 1 [(.var 0), (.cst (.bl false))])]
def gl_helpers : Str → Option D := glOf []
def F_helpers : Fn := ⟨[.val], (runFn (fun f => ([F_need_suite, F_turned] : List Fn)[f]?) gl_helpers [.val] 1 B_helpers)⟩

def N_Suite_add : List Str := ["self", "test"]
def nm_Suite_add : Nm := { kd := fun i => match i with | 0 => .mk "Suite" | _ => .non, gb := false, fl := fun c => if c = "Suite" then ["first", "kept"] else [], kt := fun _ => [], ic := fun _ => false }
def B_Suite_add : List S := [.ret (.callm 0 (.glob "Suite") [(.fld "Suite" 0 (.var 0)), (.star (.fld "Suite" 1 (.var 0))), (.var 1)])]
def gl_Suite_add : Str → Option D := glOf [("Suite", (.cls "Suite"))]
def F_Suite_add : Fn := ⟨[.val, .val], (addRun "Suite" (runFn (fun f => ([F_Suite_mk] : List Fn)[f]?) gl_Suite_add [.val, .val] 2 B_Suite_add))⟩

def N_parts_of : List Str := ["row", "found", "number", "part"]
def nm_parts_of : Nm := { kd := fun i => match i with  | _ => .non, gb := false, fl := fun _ => [], kt := fun _ => [], ic := fun _ => false }
def B_parts_of : List S := [.asg (.name 1) (.lst [(.tup [])]),
    .for_ (.name 2) (.seq (.var 0)) [.asg (.name 1) (.bin .add (.var 1) (.comp (.tup [(.star (.var 3)), (.var 2)]) (.name 3) (.seq (.var 1)) .nil [3]))],
    .ret (.var 1)]
def gl_parts_of : Str → Option D := glOf []
def F_parts_of : Fn := ⟨[.val], (runFn (fun f => ([] : List Fn)[f]?) gl_parts_of [.val] 4 B_parts_of)⟩

def N_blamed : List Str := ["suite", "number", "row", "passes", "some", "part"]
def nm_blamed : Nm := { kd := fun i => match i with | 0 => .def_ "need_others" | 1 => .def_ "verdict_of" | 2 => .def_ "parts_of" | _ => .non, gb := false, fl := fun _ => [], kt := fun _ => [], ic := fun _ => false }
def B_blamed : List S := [.expr (.call 0 [(.var 0), (.var 1), (.var 2)]),
    .asg (.name 3) (.call 1 [(.var 0), (.var 1), (.tup [])]),
    .ite (.cmp .eq (.call 1 [(.var 0), (.var 1), (.var 2)]) (.var 3)) [.ret (.cst .non)] [],
    .asg (.name 4) (.comp (.var 5) (.name 5) (.seq (.call 2 [(.var 2)])) (.cmp .ne (.call 1 [(.var 0), (.var 1), (.var 5)]) (.var 3)) [5]),
    .ret (.ix (.bi .min [(.comp (.tup [(.bi .len [(.var 5)]), (.var 5)]) (.name 5) (.seq (.var 4)) .nil [5])]) (.cst (.int 1)))]
def gl_blamed : Str → Option D := glOf []
def F_blamed : Fn := ⟨[.val, .val, .val], (runFn (fun f => ([F_need_others, F_verdict_of, F_parts_of] : List Fn)[f]?) gl_blamed [.val, .val, .val] 6 B_blamed)⟩

end DT

end
section
/-! the helpers of the laws k60 to k71 as forms (printed by ir.py) -/
namespace DT
open PySem L2
def B__law_source : List S := [.ret (.lst [(.bi .max2 [(.cst (.int 0)), (.bin .sub (.var 0) (.bin .pow (.cst (.int 10)) (.cst (.int 18))))]), (.bin .add (.bin .mod (.var 0) (.cst (.int 2147483629))) (.cst (.int 1))), (.cst (.int 0))])]
def gl__law_source : Str → Option D := glOf []
def F__law_source : Fn := ⟨[.val], (runFn (fun f => ([] : List Fn)[f]?) gl__law_source [.val] 1 B__law_source)⟩

def B__law_cell : List S := [.ite (.cmp .lt (.var 1) (.bi .len [(.var 0)])) [.ret (.ix (.var 0) (.var 1))] [],
    .ret (.cst (.int 0))]
def gl__law_cell : Str → Option D := glOf []
def F__law_cell : Fn := ⟨[.bor, .val], (runFn (fun f => ([] : List Fn)[f]?) gl__law_cell [.bor, .val] 2 B__law_cell)⟩

def B__law_draw : List S := [.ite (.cmp .gt (.ix (.var 0) (.cst (.int 0))) (.cst (.int 0))) [.asg (.name 2) (.bin .mod (.ix (.var 0) (.cst (.int 0))) (.var 1)),
    .setix 0 (.cst (.int 0)) (.bin .fdiv (.ix (.var 0) (.cst (.int 0))) (.var 1)),
    .ret (.var 2)] [],
    .setix 0 (.cst (.int 2)) (.bin .add (.ix (.var 0) (.cst (.int 2))) (.cst (.int 1))),
    .setix 0 (.cst (.int 1)) (.bin .mod (.bin .add (.bin .add (.bin .mul (.ix (.var 0) (.cst (.int 1))) (.cst (.int 48271))) (.bin .mul (.cst (.int 1009)) (.ix (.var 0) (.cst (.int 2))))) (.cst (.int 7))) (.cst (.int 2147483647))),
    .asg (.name 3) (.bin .mod (.bin .add (.bin .add (.bin .mul (.ix (.var 0) (.cst (.int 1))) (.ix (.var 0) (.cst (.int 1)))) (.bin .mul (.cst (.int 69621)) (.ix (.var 0) (.cst (.int 1))))) (.cst (.int 11))) (.cst (.int 2147483629))),
    .asg (.name 3) (.bin .mod (.bin .add (.bin .mul (.var 3) (.var 3)) (.bin .mul (.cst (.int 40014)) (.var 3))) (.cst (.int 2147483587))),
    .ret (.bin .mod (.bin .fdiv (.var 3) (.cst (.int 16))) (.var 1))]
def gl__law_draw : Str → Option D := glOf []
def F__law_draw : Fn := ⟨[.own, .val], (runFn (fun f => ([] : List Fn)[f]?) gl__law_draw [.own, .val] 4 B__law_draw)⟩

def B__law_choose : List S := [.ret (.ix (.var 1) (.call 0 [(.var 0), (.bi .len [(.var 1)])]))]
def gl__law_choose : Str → Option D := glOf []
def F__law_choose : Fn := ⟨[.own, .bor], (runFn (fun f => ([F__law_draw] : List Fn)[f]?) gl__law_choose [.own, .bor] 2 B__law_choose)⟩

def B__law_test : List S := [.asg (.name 2) (.bi .tuple [(.comp (.tup [(.var 9), (.call 0 [(.var 0), (.cst (.int 3))])]) (.name 9) (.rng1 (.var 1)) (.cmp .lt (.call 0 [(.var 0), (.cst (.int 5))]) (.cst (.int 2))) [9])]),
    .asg (.name 3) (.sl (.bi .tuple [(.comp (.var 9) (.name 9) (.rng1 (.var 1)) (.cmp .lt (.call 0 [(.var 0), (.cst (.int 5))]) (.cst (.int 3))) [9])]) .nil (.seq (.cst (.int 3)))),
    .asg (.name 4) (.lst [(.tup [])]),
    .for_ (.name 5) (.seq (.var 3)) [.asg (.name 6) (.lst []),
    .for_ (.name 7) (.seq (.var 4)) [.ext 6 (.comp (.bin .add (.var 7) (.tup [(.var 10)])) (.name 10) (.rng1 (.cst (.int 3))) .nil [10])],
    .asg (.name 4) (.var 6)],
    .asg (.name 8) (.call 1 [(.var 0), (.lst [(.cst (.int 1)), (.cst (.int 2)), (.cst (.int 3)), (.cst (.int 3)), (.cst (.int 8))])]),
    .ret (.tup [(.var 2), (.var 3), (.bi .tuple [(.comp (.var 7) (.name 7) (.seq (.var 4)) (.cmp .lt (.call 0 [(.var 0), (.cst (.int 9))]) (.var 8)) [7])])])]
def gl__law_test : Str → Option D := glOf []
def F__law_test : Fn := ⟨[.own, .val], (runFn (fun f => ([F__law_draw, F__law_choose] : List Fn)[f]?) gl__law_test [.own, .val] 11 B__law_test)⟩

def B__law_suite : List S := [.asg (.name 2) (.call 0 [(.var 0), (.lst [(.cst (.int 1)), (.cst (.int 2)), (.cst (.int 2)), (.cst (.int 3)), (.cst (.int 3)), (.cst (.int 3)), (.cst (.int 4)), (.cst (.int 5))])]),
    .asg (.name 3) (.bi .tuple [(.comp (.call 1 [(.var 0), (.cst (.int 3))]) (.name 7) (.rng1 (.var 2)) .nil [7])]),
    .asg (.name 4) (.lst []),
    .for_ (.name 5) (.rng1 (.call 1 [(.var 0), (.bin .add (.var 1) (.cst (.int 1)))])) [.asg (.name 6) (.and (.cmp .ne (.var 4) (.lst [])) (.cmp .eq (.call 1 [(.var 0), (.cst (.int 8))]) (.cst (.int 0)))),
    .app 4 (.ife (.var 6) (.call 0 [(.var 0), (.var 4)]) (.call 2 [(.var 0), (.var 2)]))],
    .ret (.tup [(.var 3), (.var 4)])]
def gl__law_suite : Str → Option D := glOf []
def F__law_suite : Fn := ⟨[.own, .val], (runFn (fun f => ([F__law_choose, F__law_draw, F__law_test] : List Fn)[f]?) gl__law_suite [.own, .val] 8 B__law_suite)⟩

def B__law_text : List S := [.asg (.name 2) (.lst [(.bin .add (.cst (.str "start ")) (.bm .join (.cst (.str " ")) [(.comp (.bi .str [(.var 9)]) (.name 9) (.seq (.var 0)) .nil [9])]))]),
    .for_ (.tup [(.name 3), (.name 4), (.name 5)]) (.seq (.var 1)) [.asg (.name 6) (.bm .join (.cst (.str " ")) [(.comp (.bin .add (.bin .add (.bi .str [(.var 10)]) (.cst (.str "="))) (.bi .str [(.var 9)])) (.tup [(.name 10), (.name 9)]) (.seq (.var 3)) .nil [9, 10])]),
    .asg (.name 7) (.bm .join (.cst (.str " ")) [(.comp (.bi .str [(.var 10)]) (.name 10) (.seq (.var 4)) .nil [10])]),
    .asg (.name 8) (.bm .join (.cst (.str " ")) [(.comp (.bm .join (.cst (.str "")) [(.comp (.bi .str [(.var 9)]) (.name 9) (.seq (.var 11)) .nil [9])]) (.name 11) (.seq (.var 5)) .nil [11])]),
    .ite (.cmp .eq (.var 5) (.tup [(.tup [])])) [.asg (.name 8) (.cst (.str "any"))] [],
    .app 2 (.bm .join (.cst (.str " | ")) [(.comp (.ife (.cmp .ne (.var 12) (.cst (.str ""))) (.var 12) (.cst (.str "-"))) (.name 12) (.seq (.tup [(.var 6), (.var 7), (.var 8)])) .nil [12])])],
    .ret (.bm .join (.cst (.str "")) [(.comp (.bin .add (.var 13) (.cst (.str "\n"))) (.name 13) (.seq (.var 2)) .nil [13])])]
def gl__law_text : Str → Option D := glOf []
def F__law_text : Fn := ⟨[.val, .val], (runFn (fun f => ([] : List Fn)[f]?) gl__law_text [.val, .val] 14 B__law_text)⟩

def B__law_made : List S := [.ret (.callm 0 (.glob "Suite") [(.call 1 [(.var 0), (.var 1)])])]
def gl__law_made : Str → Option D := glOf [("Suite", (.cls "Suite"))]
def F__law_made : Fn := ⟨[.val, .val], (runFn (fun f => ([F_Suite_read, F__law_text] : List Fn)[f]?) gl__law_made [.val, .val] 2 B__law_made)⟩

def B__law_passes : List S := [.ret (.cmp .notin (.bi .tuple [(.comp (.ix (.var 0) (.var 2)) (.name 2) (.seq (.ix (.var 1) (.cst (.int 1)))) .nil [2])]) (.ix (.var 1) (.cst (.int 2))))]
def gl__law_passes : Str → Option D := glOf []
def F__law_passes : Fn := ⟨[.val, .val], (runFn (fun f => ([] : List Fn)[f]?) gl__law_passes [.val, .val] 3 B__law_passes)⟩

def B__law_behind : List S := [.asg (.name 3) (.bi .list [(.var 0)]),
    .for_ (.name 4) (.seq (.var 2)) [.for_ (.tup [(.name 5), (.name 6)]) (.seq (.ix (.ix (.var 1) (.var 4)) (.cst (.int 0)))) [.setix 3 (.var 5) (.var 6)]],
    .ret (.var 3)]
def gl__law_behind : Str → Option D := glOf []
def F__law_behind : Fn := ⟨[.val, .val, .val], (runFn (fun f => ([] : List Fn)[f]?) gl__law_behind [.val, .val, .val] 7 B__law_behind)⟩

def B__law_verdict : List S := [.ret (.call 0 [(.call 1 [(.var 0), (.var 1), (.var 3)]), (.ix (.var 1) (.var 2))])]
def gl__law_verdict : Str → Option D := glOf []
def F__law_verdict : Fn := ⟨[.val, .val, .val, .val], (runFn (fun f => ([F__law_passes, F__law_behind] : List Fn)[f]?) gl__law_verdict [.val, .val, .val, .val] 4 B__law_verdict)⟩

def B__law_is_equal : List S := [.ret (.cmp .eq (.bi .repr [(.var 0)]) (.bi .repr [(.var 1)]))]
def gl__law_is_equal : Str → Option D := glOf []
def F__law_is_equal : Fn := ⟨[.val, .val], (runFn (fun f => ([] : List Fn)[f]?) gl__law_is_equal [.val, .val] 2 B__law_is_equal)⟩

end DT

end
section
/-! law_k63_what_is_to_blame's own defs as forms (printed by ir.py) -/
namespace DT
open PySem L2
def N__law_source : List Str := ["_law_cell_here"]
def nm__law_source : Nm := { kd := fun i => match i with  | _ => .non, gb := false, fl := fun _ => [], kt := fun _ => [], ic := fun _ => false }

def N__law_cell : List Str := ["_law_script", "_law_index"]
def nm__law_cell : Nm := { kd := fun i => match i with  | _ => .non, gb := false, fl := fun _ => [], kt := fun _ => [], ic := fun _ => false }

def N__law_draw : List Str := ["_law_source_here", "_law_many", "_law_found", "_law_mixed"]
def nm__law_draw : Nm := { kd := fun i => match i with  | _ => .non, gb := false, fl := fun _ => [], kt := fun _ => [], ic := fun _ => false }

def N__law_choose : List Str := ["_law_source_here", "_law_values"]
def nm__law_choose : Nm := { kd := fun i => match i with | 0 => .def_ "_law_draw" | _ => .non, gb := false, fl := fun _ => [], kt := fun _ => [], ic := fun _ => false }

def N__law_test : List Str := ["_law_source_here", "_law_fields", "_law_writes", "_law_reads", "_law_every", "_law_field", "_law_longer", "_law_values", "_law_share", "_law_at", "_law_value"]
def nm__law_test : Nm := { kd := fun i => match i with | 0 => .def_ "_law_draw" | 1 => .def_ "_law_choose" | _ => .non, gb := false, fl := fun _ => [], kt := fun _ => [], ic := fun _ => false }

def N__law_suite : List Str := ["_law_source_here", "_law_most", "_law_fields", "_law_start", "_law_tests", "_law_turn", "_law_is_again", "_law_field"]
def nm__law_suite : Nm := { kd := fun i => match i with | 0 => .def_ "_law_choose" | 1 => .def_ "_law_draw" | 2 => .def_ "_law_test" | _ => .non, gb := false, fl := fun _ => [], kt := fun _ => [], ic := fun _ => false }

def N__law_text : List Str := ["_law_start", "_law_tests", "_law_lines", "_law_writes", "_law_reads", "_law_fails", "_law_first", "_law_second", "_law_third", "_law_value", "_law_field", "_law_values", "_law_part", "_law_line"]
def nm__law_text : Nm := { kd := fun i => match i with  | _ => .non, gb := false, fl := fun _ => [], kt := fun _ => [], ic := fun _ => false }

def N__law_made : List Str := ["_law_start", "_law_tests"]
def nm__law_made : Nm := { kd := fun i => match i with | 0 => .clsm "Suite" "read" | 1 => .def_ "_law_text" | _ => .non, gb := false, fl := fun _ => [], kt := fun _ => [], ic := fun _ => false }

def N__law_rows : List Str := ["_law_numbers", "_law_found", "_law_last", "_law_turn", "_law_longer", "_law_row", "_law_one"]
def nm__law_rows : Nm := { kd := fun i => match i with  | _ => .non, gb := false, fl := fun _ => [], kt := fun _ => [], ic := fun _ => false }
def B__law_rows : List S := [.par 1 2 (.lst [(.tup [])]) (.lst [(.tup [])]),
    .for_ (.name 3) (.rng1 (.bi .len [(.var 0)])) [.asg (.name 4) (.lst []),
    .for_ (.name 5) (.seq (.var 2)) [.ext 4 (.comp (.bin .add (.var 5) (.tup [(.var 6)])) (.name 6) (.seq (.var 0)) (.cmp .notin (.var 6) (.var 5)) [6])],
    .asg (.name 2) (.var 4),
    .asg (.name 1) (.bin .add (.var 1) (.var 2))],
    .ret (.var 1)]
def gl__law_rows : Str → Option D := glOf []
def F__law_rows : Fn := ⟨[.val], (runFn (fun f => ([] : List Fn)[f]?) gl__law_rows [.val] 7 B__law_rows)⟩

def N__law_others : List Str := ["_law_tests", "_law_number", "_law_other"]
def nm__law_others : Nm := { kd := fun i => match i with  | _ => .non, gb := false, fl := fun _ => [], kt := fun _ => [], ic := fun _ => false }
def B__law_others : List S := [.ret (.comp (.var 2) (.name 2) (.rng1 (.bi .len [(.var 0)])) (.cmp .ne (.var 2) (.var 1)) [2])]
def gl__law_others : Str → Option D := glOf []
def F__law_others : Fn := ⟨[.val, .val], (runFn (fun f => ([] : List Fn)[f]?) gl__law_others [.val, .val] 3 B__law_others)⟩

def N__law_passes : List Str := ["_law_record", "_law_test_here", "_law_field"]
def nm__law_passes : Nm := { kd := fun i => match i with  | _ => .non, gb := false, fl := fun _ => [], kt := fun _ => [], ic := fun _ => false }

def N__law_behind : List Str := ["_law_start", "_law_tests", "_law_row", "_law_record", "_law_number", "_law_field", "_law_value"]
def nm__law_behind : Nm := { kd := fun i => match i with  | _ => .non, gb := false, fl := fun _ => [], kt := fun _ => [], ic := fun _ => false }

def N__law_verdict : List Str := ["_law_start", "_law_tests", "_law_number", "_law_row"]
def nm__law_verdict : Nm := { kd := fun i => match i with | 0 => .def_ "_law_passes" | 1 => .def_ "_law_behind" | _ => .non, gb := false, fl := fun _ => [], kt := fun _ => [], ic := fun _ => false }

def N__law_blamed : List Str := ["_law_start", "_law_tests", "_law_number", "_law_row", "_law_first", "_law_some", "_law_one", "_law_found", "_law_part"]
def nm__law_blamed : Nm := { kd := fun i => match i with | 0 => .def_ "_law_verdict" | _ => .non, gb := false, fl := fun _ => [], kt := fun _ => [], ic := fun _ => false }
def B__law_blamed : List S := [.asg (.tup [(.name 4), (.name 5)]) (.tup [(.call 0 [(.var 0), (.var 1), (.var 2), (.tup [])]), (.lst [(.tup [])])]),
    .ite (.cmp .eq (.call 0 [(.var 0), (.var 1), (.var 2), (.var 3)]) (.var 4)) [.ret (.cst .non)] [],
    .for_ (.name 6) (.seq (.var 3)) [.asg (.name 5) (.bin .add (.var 5) (.comp (.bin .add (.var 8) (.tup [(.var 6)])) (.name 8) (.seq (.var 5)) .nil [8]))],
    .asg (.name 7) (.comp (.tup [(.bi .len [(.var 8)]), (.var 8)]) (.name 8) (.seq (.var 5)) (.cmp .ne (.call 0 [(.var 0), (.var 1), (.var 2), (.var 8)]) (.var 4)) [8]),
    .ret (.ix (.bi .min [(.var 7)]) (.cst (.int 1)))]
def gl__law_blamed : Str → Option D := glOf []
def F__law_blamed : Fn := ⟨[.val, .val, .val, .val], (runFn (fun f => ([F__law_verdict] : List Fn)[f]?) gl__law_blamed [.val, .val, .val, .val] 9 B__law_blamed)⟩

def N__law_is_equal : List Str := ["_law_actual", "_law_expected"]
def nm__law_is_equal : Nm := { kd := fun i => match i with  | _ => .non, gb := true, fl := fun _ => [], kt := fun _ => [], ic := fun _ => false }

def N_law : List Str := ["_law_script", "_law_index", "_law_source_here", "_law_lap", "_law_start", "_law_tests", "_law_made_here", "_law_number", "_law_every", "_law_turn", "_law_row", "_law_due"]
def nm_law : Nm := { kd := fun i => match i with | 0 => .def_ "_law_source" | 1 => .def_ "_law_cell" | 2 => .def_ "_law_suite" | 3 => .def_ "_law_made" | 4 => .def_ "_law_rows" | 5 => .def_ "_law_others" | 6 => .def_ "_law_draw" | 7 => .def_ "_law_blamed" | 8 => .def_ "_law_is_equal" | 9 => .def_ "blamed" | _ => .non, gb := true, fl := fun _ => [], kt := fun _ => [], ic := fun _ => false }
def B_law : List S := [.for_ (.name 1) (.rng1 (.bi .max2 [(.cst (.int 1)), (.bi .min2 [(.bi .len [(.var 0)]), (.cst (.int 2))])])) [.asg (.name 2) (.call 0 [(.call 1 [(.var 0), (.var 1)])]),
    .for_ (.name 3) (.rng1 (.cst (.int 6))) [.asg (.tup [(.name 4), (.name 5)]) (.call 2 [(.var 2), (.ix (.lst [(.cst (.int 6)), (.cst (.int 4)), (.cst (.int 5)), (.cst (.int 3)), (.cst (.int 5)), (.cst (.int 6))]) (.var 3))]),
    .asg (.name 6) (.call 3 [(.var 4), (.var 5)]),
    .for_ (.name 7) (.rng1 (.bi .len [(.var 5)])) [.asg (.name 8) (.call 4 [(.call 5 [(.var 5), (.var 7)])]),
    .for_ (.name 9) (.rng1 (.cst (.int 3))) [.asg (.name 10) (.ix (.var 8) (.bin .sub (.bin .sub (.bi .len [(.var 8)]) (.cst (.int 1))) (.call 6 [(.var 2), (.bi .len [(.var 8)])]))),
    .asg (.name 11) (.call 7 [(.var 4), (.var 5), (.var 7), (.var 10)]),
    .ite (.not (.call 8 [(.lst [(.call 9 [(.var 6), (.var 7), (.var 10)]), (.call 9 [(.var 6), (.var 7), (.var 10)])]), (.lst [(.var 11), (.var 11)])])) [.ret (.cst (.bl false))] []]]]],
    .ret (.cst (.bl true))]
def gl_law : Str → Option D := glOf []
def F_law : Fn := ⟨[.bor], (runFn (fun f => ([F__law_source, F__law_cell, F__law_suite, F__law_made, F__law_rows, F__law_others, F__law_draw, F__law_blamed, F__law_is_equal, F_blamed] : List Fn)[f]?) gl_law [.bor] 12 B_law)⟩

end DT

end
section
/-! law_k63_what_is_to_blame: the walk (printed by gen_walk.py) -/
namespace DT
open PySem L2
def top (i : Nat) : Stmt := PySem.Challenge.pw_dirtytests_k63_what_is_to_blame.main.body.getD i (.Pass ⟨0, 0, 0, 0⟩)
abbrev st__law_source : Stmt := (top 51)
theorem sc__law_source : FnScope N__law_source ["_law_cell_here"] (defScope st__law_source) := ⟨rfl, rfl, rfl, by decide +kernel, rfl, by decide +kernel, by decide +kernel⟩
theorem ag__law_source : agSs N__law_source nm__law_source (defScope st__law_source) (fun _ => true) B__law_source (defBody st__law_source) = true := by decide +kernel
theorem g__law_source {P : Program} {w : World} {K : PySem.W.Frag} {mg : Str → Option Value} {base : Heap} {κ : Cs} {k : Nat} {f : Addr} {fd : FuncData} (T : Tab κ (fun f => ([] : List Fn)[f]?) nm__law_source gl__law_source k P w K mg base) (FU : Fun K "_law_source" "_law_source" st__law_source f fd) : FnG P w K mg base κ false (k + 2) f F__law_source := fnG_of T FU sc__law_source (FU.binds fun _ _ _ _ _ _ us hl => match us, hl with | [_], _ => rfl) rfl ag__law_source (by decide) fun _ _ h => h
abbrev st__law_cell : Stmt := (top 50)
theorem sc__law_cell : FnScope N__law_cell ["_law_script", "_law_index"] (defScope st__law_cell) := ⟨rfl, rfl, rfl, by decide +kernel, rfl, by decide +kernel, by decide +kernel⟩
theorem ag__law_cell : agSs N__law_cell nm__law_cell (defScope st__law_cell) (fun _ => true) B__law_cell (defBody st__law_cell) = true := by decide +kernel
theorem g__law_cell {P : Program} {w : World} {K : PySem.W.Frag} {mg : Str → Option Value} {base : Heap} {κ : Cs} {k : Nat} {f : Addr} {fd : FuncData} (T : Tab κ (fun f => ([] : List Fn)[f]?) nm__law_cell gl__law_cell k P w K mg base) (FU : Fun K "_law_cell" "_law_cell" st__law_cell f fd) : FnG P w K mg base κ false (k + 2) f F__law_cell := fnG_of T FU sc__law_cell (FU.binds fun _ _ _ _ _ _ us hl => match us, hl with | [_, _], _ => rfl) rfl ag__law_cell (by decide) fun _ _ h => h
abbrev st__law_draw : Stmt := (top 52)
theorem sc__law_draw : FnScope N__law_draw ["_law_source_here", "_law_many"] (defScope st__law_draw) := ⟨rfl, rfl, rfl, by decide +kernel, rfl, by decide +kernel, by decide +kernel⟩
theorem ag__law_draw : agSs N__law_draw nm__law_draw (defScope st__law_draw) (fun _ => true) B__law_draw (defBody st__law_draw) = true := by decide +kernel
theorem g__law_draw {P : Program} {w : World} {K : PySem.W.Frag} {mg : Str → Option Value} {base : Heap} {κ : Cs} {k : Nat} {f : Addr} {fd : FuncData} (T : Tab κ (fun f => ([] : List Fn)[f]?) nm__law_draw gl__law_draw k P w K mg base) (FU : Fun K "_law_draw" "_law_draw" st__law_draw f fd) : FnG P w K mg base κ false (k + 2) f F__law_draw := fnG_of T FU sc__law_draw (FU.binds fun _ _ _ _ _ _ us hl => match us, hl with | [_, _], _ => rfl) rfl ag__law_draw (by decide) fun _ _ h => h
abbrev st__law_choose : Stmt := (top 53)
theorem sc__law_choose : FnScope N__law_choose ["_law_source_here", "_law_values"] (defScope st__law_choose) := ⟨rfl, rfl, rfl, by decide +kernel, rfl, by decide +kernel, by decide +kernel⟩
theorem ag__law_choose : agSs N__law_choose nm__law_choose (defScope st__law_choose) (fun _ => true) B__law_choose (defBody st__law_choose) = true := by decide +kernel
theorem g__law_choose {P : Program} {w : World} {K : PySem.W.Frag} {mg : Str → Option Value} {base : Heap} {κ : Cs} {k : Nat} {f : Addr} {fd : FuncData} (T : Tab κ (fun f => ([F__law_draw] : List Fn)[f]?) nm__law_choose gl__law_choose k P w K mg base) (FU : Fun K "_law_choose" "_law_choose" st__law_choose f fd) : FnG P w K mg base κ false (k + 2) f F__law_choose := fnG_of T FU sc__law_choose (FU.binds fun _ _ _ _ _ _ us hl => match us, hl with | [_, _], _ => rfl) rfl ag__law_choose (by decide) fun _ _ h => h
abbrev st__law_test : Stmt := (top 55)
theorem sc__law_test : FnScope N__law_test ["_law_source_here", "_law_fields"] (defScope st__law_test) := ⟨rfl, rfl, rfl, by decide +kernel, rfl, by decide +kernel, by decide +kernel⟩
theorem ag__law_test : agSs N__law_test nm__law_test (defScope st__law_test) (fun _ => true) B__law_test (defBody st__law_test) = true := by decide +kernel
theorem g__law_test {P : Program} {w : World} {K : PySem.W.Frag} {mg : Str → Option Value} {base : Heap} {κ : Cs} {k : Nat} {f : Addr} {fd : FuncData} (T : Tab κ (fun f => ([F__law_draw, F__law_choose] : List Fn)[f]?) nm__law_test gl__law_test k P w K mg base) (FU : Fun K "_law_test" "_law_test" st__law_test f fd) : FnG P w K mg base κ false (k + 2) f F__law_test := fnG_of T FU sc__law_test (FU.binds fun _ _ _ _ _ _ us hl => match us, hl with | [_, _], _ => rfl) rfl ag__law_test (by decide) fun _ _ h => h
abbrev st__law_suite : Stmt := (top 56)
theorem sc__law_suite : FnScope N__law_suite ["_law_source_here", "_law_most"] (defScope st__law_suite) := ⟨rfl, rfl, rfl, by decide +kernel, rfl, by decide +kernel, by decide +kernel⟩
theorem ag__law_suite : agSs N__law_suite nm__law_suite (defScope st__law_suite) (fun _ => true) B__law_suite (defBody st__law_suite) = true := by decide +kernel
theorem g__law_suite {P : Program} {w : World} {K : PySem.W.Frag} {mg : Str → Option Value} {base : Heap} {κ : Cs} {k : Nat} {f : Addr} {fd : FuncData} (T : Tab κ (fun f => ([F__law_choose, F__law_draw, F__law_test] : List Fn)[f]?) nm__law_suite gl__law_suite k P w K mg base) (FU : Fun K "_law_suite" "_law_suite" st__law_suite f fd) : FnG P w K mg base κ false (k + 2) f F__law_suite := fnG_of T FU sc__law_suite (FU.binds fun _ _ _ _ _ _ us hl => match us, hl with | [_, _], _ => rfl) rfl ag__law_suite (by decide) fun _ _ h => h
abbrev st_numbers_in : Stmt := (top 30)
theorem sc_numbers_in : FnScope N_numbers_in ["words"] (defScope st_numbers_in) := ⟨rfl, rfl, rfl, by decide +kernel, rfl, by decide +kernel, by decide +kernel⟩
theorem ag_numbers_in : agSs N_numbers_in nm_numbers_in (defScope st_numbers_in) (fun _ => true) B_numbers_in (defBody st_numbers_in) = true := by decide +kernel
theorem g_numbers_in {P : Program} {w : World} {K : PySem.W.Frag} {mg : Str → Option Value} {base : Heap} {κ : Cs} {k : Nat} {f : Addr} {fd : FuncData} (T : Tab κ (fun f => ([] : List Fn)[f]?) nm_numbers_in gl_numbers_in k P w K mg base) (FU : Fun K "numbers_in" "numbers_in" st_numbers_in f fd) : FnG P w K mg base κ false (k + 2) f F_numbers_in := fnG_of T FU sc_numbers_in (FU.binds fun _ _ _ _ _ _ us hl => match us, hl with | [_], _ => rfl) rfl ag_numbers_in (by decide) fun _ _ h => h
abbrev st_words_in : Stmt := (top 33)
theorem sc_words_in : FnScope N_words_in ["part"] (defScope st_words_in) := ⟨rfl, rfl, rfl, by decide +kernel, rfl, by decide +kernel, by decide +kernel⟩
theorem ag_words_in : agSs N_words_in nm_words_in (defScope st_words_in) (fun _ => true) B_words_in (defBody st_words_in) = true := by decide +kernel
theorem g_words_in {P : Program} {w : World} {K : PySem.W.Frag} {mg : Str → Option Value} {base : Heap} {κ : Cs} {k : Nat} {f : Addr} {fd : FuncData} (T : Tab κ (fun f => ([] : List Fn)[f]?) nm_words_in gl_words_in k P w K mg base) (FU : Fun K "words_in" "words_in" st_words_in f fd) : FnG P w K mg base κ false (k + 2) f F_words_in := fnG_of T FU sc_words_in (FU.binds fun _ _ _ _ _ _ us hl => match us, hl with | [_], _ => rfl) rfl ag_words_in (by decide) fun _ _ h => h
abbrev st_test_in : Stmt := (top 34)
theorem sc_test_in : FnScope N_test_in ["line"] (defScope st_test_in) := ⟨rfl, rfl, rfl, by decide +kernel, rfl, by decide +kernel, by decide +kernel⟩
theorem ag_test_in : agSs N_test_in nm_test_in (defScope st_test_in) (fun _ => true) B_test_in (defBody st_test_in) = true := by decide +kernel
theorem g_test_in {P : Program} {w : World} {K : PySem.W.Frag} {mg : Str → Option Value} {base : Heap} {κ : Cs} {k : Nat} {f : Addr} {fd : FuncData} (T : Tab κ (fun f => ([F_words_in, F_numbers_in] : List Fn)[f]?) nm_test_in gl_test_in k P w K mg base) (FU : Fun K "test_in" "test_in" st_test_in f fd) : FnG P w K mg base κ false (k + 2) f F_test_in := fnG_of T FU sc_test_in (FU.binds fun _ _ _ _ _ _ us hl => match us, hl with | [_], _ => rfl) rfl ag_test_in (by decide) fun _ _ h => h
abbrev st_is_between : Stmt := (top 4)
theorem sc_is_between : FnScope N_is_between ["thing", "low", "high"] (defScope st_is_between) := ⟨rfl, rfl, rfl, by decide +kernel, rfl, by decide +kernel, by decide +kernel⟩
theorem ag_is_between : agSs N_is_between nm_is_between (defScope st_is_between) (fun _ => true) B_is_between (defBody st_is_between) = true := by decide +kernel
theorem g_is_between {P : Program} {w : World} {K : PySem.W.Frag} {mg : Str → Option Value} {base : Heap} {κ : Cs} {k : Nat} {f : Addr} {fd : FuncData} (T : Tab κ (fun f => ([] : List Fn)[f]?) nm_is_between gl_is_between k P w K mg base) (FU : Fun K "is_between" "is_between" st_is_between f fd) : FnG P w K mg base κ false (k + 2) f F_is_between := fnG_of T FU sc_is_between (FU.binds fun _ _ _ _ _ _ us hl => match us, hl with | [_, _, _], _ => rfl) rfl ag_is_between (by decide) fun _ _ h => h
abbrev st_are_between : Stmt := (top 5)
theorem sc_are_between : FnScope N_are_between ["thing", "low", "high"] (defScope st_are_between) := ⟨rfl, rfl, rfl, by decide +kernel, rfl, by decide +kernel, by decide +kernel⟩
theorem ag_are_between : agSs N_are_between nm_are_between (defScope st_are_between) (fun _ => true) B_are_between (defBody st_are_between) = true := by decide +kernel
theorem g_are_between {P : Program} {w : World} {K : PySem.W.Frag} {mg : Str → Option Value} {base : Heap} {κ : Cs} {k : Nat} {f : Addr} {fd : FuncData} (T : Tab κ (fun f => ([F_is_between] : List Fn)[f]?) nm_are_between gl_are_between k P w K mg base) (FU : Fun K "are_between" "are_between" st_are_between f fd) : FnG P w K mg base κ false (k + 2) f F_are_between := fnG_of T FU sc_are_between (FU.binds fun _ _ _ _ _ _ us hl => match us, hl with | [_, _, _], _ => rfl) rfl ag_are_between (by decide) fun _ _ h => h
abbrev st_is_record : Stmt := (top 7)
theorem sc_is_record : FnScope N_is_record ["thing"] (defScope st_is_record) := ⟨rfl, rfl, rfl, by decide +kernel, rfl, by decide +kernel, by decide +kernel⟩
theorem ag_is_record : agSs N_is_record nm_is_record (defScope st_is_record) (fun _ => true) B_is_record (defBody st_is_record) = true := by decide +kernel
theorem g_is_record {P : Program} {w : World} {K : PySem.W.Frag} {mg : Str → Option Value} {base : Heap} {κ : Cs} {k : Nat} {f : Addr} {fd : FuncData} (T : Tab κ (fun f => ([F_are_between] : List Fn)[f]?) nm_is_record gl_is_record k P w K mg base) (FU : Fun K "is_record" "is_record" st_is_record f fd) : FnG P w K mg base κ false (k + 2) f F_is_record := fnG_of T FU sc_is_record (FU.binds fun _ _ _ _ _ _ us hl => match us, hl with | [_], _ => rfl) rfl ag_is_record (by decide) fun _ _ h => h
abbrev st_ascends : Stmt := (top 6)
theorem sc_ascends : FnScope N_ascends ["things"] (defScope st_ascends) := ⟨rfl, rfl, rfl, by decide +kernel, rfl, by decide +kernel, by decide +kernel⟩
theorem ag_ascends : agSs N_ascends nm_ascends (defScope st_ascends) (fun _ => true) B_ascends (defBody st_ascends) = true := by decide +kernel
theorem g_ascends {P : Program} {w : World} {K : PySem.W.Frag} {mg : Str → Option Value} {base : Heap} {κ : Cs} {k : Nat} {f : Addr} {fd : FuncData} (T : Tab κ (fun f => ([] : List Fn)[f]?) nm_ascends gl_ascends k P w K mg base) (FU : Fun K "ascends" "ascends" st_ascends f fd) : FnG P w K mg base κ false (k + 2) f F_ascends := fnG_of T FU sc_ascends (FU.binds fun _ _ _ _ _ _ us hl => match us, hl with | [_], _ => rfl) rfl ag_ascends (by decide) fun _ _ h => h
abbrev st_are_writes : Stmt := (top 8)
theorem sc_are_writes : FnScope N_are_writes ["thing", "fields"] (defScope st_are_writes) := ⟨rfl, rfl, rfl, by decide +kernel, rfl, by decide +kernel, by decide +kernel⟩
theorem ag_are_writes : agSs N_are_writes nm_are_writes (defScope st_are_writes) (fun _ => true) B_are_writes (defBody st_are_writes) = true := by decide +kernel
theorem g_are_writes {P : Program} {w : World} {K : PySem.W.Frag} {mg : Str → Option Value} {base : Heap} {κ : Cs} {k : Nat} {f : Addr} {fd : FuncData} (T : Tab κ (fun f => ([F_are_between, F_ascends] : List Fn)[f]?) nm_are_writes gl_are_writes k P w K mg base) (FU : Fun K "are_writes" "are_writes" st_are_writes f fd) : FnG P w K mg base κ false (k + 2) f F_are_writes := fnG_of T FU sc_are_writes (FU.binds fun _ _ _ _ _ _ us hl => match us, hl with | [_, _], _ => rfl) rfl ag_are_writes (by decide) fun _ _ h => h
abbrev st_is_test : Stmt := (top 9)
theorem sc_is_test : FnScope N_is_test ["thing", "fields"] (defScope st_is_test) := ⟨rfl, rfl, rfl, by decide +kernel, rfl, by decide +kernel, by decide +kernel⟩
theorem ag_is_test : agSs N_is_test nm_is_test (defScope st_is_test) (fun _ => true) B_is_test (defBody st_is_test) = true := by decide +kernel
theorem g_is_test {P : Program} {w : World} {K : PySem.W.Frag} {mg : Str → Option Value} {base : Heap} {κ : Cs} {k : Nat} {f : Addr} {fd : FuncData} (T : Tab κ (fun f => ([F_are_writes, F_are_between, F_ascends] : List Fn)[f]?) nm_is_test gl_is_test k P w K mg base) (FU : Fun K "is_test" "is_test" st_is_test f fd) : FnG P w K mg base κ false (k + 2) f F_is_test := fnG_of T FU sc_is_test (FU.binds fun _ _ _ _ _ _ us hl => match us, hl with | [_, _], _ => rfl) rfl ag_is_test (by decide) fun _ _ h => h
abbrev st_joined : Stmt := (top 31)
theorem sc_joined : FnScope N_joined ["words"] (defScope st_joined) := ⟨rfl, rfl, rfl, by decide +kernel, rfl, by decide +kernel, by decide +kernel⟩
theorem ag_joined : agSs N_joined nm_joined (defScope st_joined) (fun _ => true) B_joined (defBody st_joined) = true := by decide +kernel
theorem g_joined {P : Program} {w : World} {K : PySem.W.Frag} {mg : Str → Option Value} {base : Heap} {κ : Cs} {k : Nat} {f : Addr} {fd : FuncData} (T : Tab κ (fun f => ([] : List Fn)[f]?) nm_joined gl_joined k P w K mg base) (FU : Fun K "joined" "joined" st_joined f fd) : FnG P w K mg base κ false (k + 2) f F_joined := fnG_of T FU sc_joined (FU.binds fun _ _ _ _ _ _ us hl => match us, hl with | [_], _ => rfl) rfl ag_joined (by decide) fun _ _ h => h
abbrev st_line_of : Stmt := (top 32)
theorem sc_line_of : FnScope N_line_of ["test"] (defScope st_line_of) := ⟨rfl, rfl, rfl, by decide +kernel, rfl, by decide +kernel, by decide +kernel⟩
theorem ag_line_of : agSs N_line_of nm_line_of (defScope st_line_of) (fun _ => true) B_line_of (defBody st_line_of) = true := by decide +kernel
theorem g_line_of {P : Program} {w : World} {K : PySem.W.Frag} {mg : Str → Option Value} {base : Heap} {κ : Cs} {k : Nat} {f : Addr} {fd : FuncData} (T : Tab κ (fun f => ([F_joined] : List Fn)[f]?) nm_line_of gl_line_of k P w K mg base) (FU : Fun K "line_of" "line_of" st_line_of f fd) : FnG P w K mg base κ false (k + 2) f F_line_of := fnG_of T FU sc_line_of (FU.binds fun _ _ _ _ _ _ us hl => match us, hl with | [_], _ => rfl) rfl ag_line_of (by decide) fun _ _ h => h
abbrev st_text_of : Stmt := (top 35)
theorem sc_text_of : FnScope N_text_of ["start", "tests"] (defScope st_text_of) := ⟨rfl, rfl, rfl, by decide +kernel, rfl, by decide +kernel, by decide +kernel⟩
theorem ag_text_of : agSs N_text_of nm_text_of (defScope st_text_of) (fun _ => true) B_text_of (defBody st_text_of) = true := by decide +kernel
theorem g_text_of {P : Program} {w : World} {K : PySem.W.Frag} {mg : Str → Option Value} {base : Heap} {κ : Cs} {k : Nat} {f : Addr} {fd : FuncData} (T : Tab κ (fun f => ([F_joined, F_line_of] : List Fn)[f]?) nm_text_of gl_text_of k P w K mg base) (FU : Fun K "text_of" "text_of" st_text_of f fd) : FnG P w K mg base κ false (k + 2) f F_text_of := fnG_of T FU sc_text_of (FU.binds fun _ _ _ _ _ _ us hl => match us, hl with | [_, _], _ => rfl) rfl ag_text_of (by decide) fun _ _ h => h
abbrev st_Suite_init : Stmt := (inClass (top 37) 0)
theorem sc_Suite_init : FnScope N_Suite_init ((["self", "start"] : List Str) ++ (["tests"] : List Str)) (defScope st_Suite_init) := ⟨rfl, rfl, rfl, by decide +kernel, rfl, by decide +kernel, by decide +kernel⟩
theorem ag_Suite_init : agSs N_Suite_init nm_Suite_init (defScope st_Suite_init) (fun _ => true) B_Suite_init (defBody st_Suite_init).dropLast = true := by decide +kernel
theorem g_Suite_init {P : Program} {w : World} {K : PySem.W.Frag} {mg : Str → Option Value} {base : Heap} {κ : Cs} {k : Nat} {f : Addr} {fd : FuncData} (T : Tab κ (fun f => ([F_is_record, F_is_test] : List Fn)[f]?) nm_Suite_init gl_Suite_init k P w K mg base) (FU : Fun K "__init__" "Suite.__init__" st_Suite_init f fd) {C : Addr} {n : Nat} (M : Mk K C f) (cl : Cls K C) (na : NoAttr K C "first") (nb : NoAttr K C "kept") (hC : κ.ad "Suite" = some C) (hfl : κ.fl "Suite" = (["first", "kept"] : List Str)) : FnG P w K mg base κ false (k + 3) C (mkFn F_Suite_mk "Suite" n) := by
  have hb : ∀ us rest : List Value, us.length = [("self" : Str), "start"].length → bindArgs fd ⟨us ++ rest, []⟩ = (newTuple rest >>= fun t => pure ([("self" : Str), "start"].zip us ++ [(("tests" : Str), t)])) := by
    obtain ⟨oc, od, kV, doc, pm, an, cdv, ct, osl, rfl, lk, hcd⟩ := FU.ex
    exact StX.bind_star2 (B := fun us => bindArgs (PySem.W.fnOf "__init__" "Suite.__init__" (defArgs st_Suite_init) (defBody st_Suite_init) (defScope st_Suite_init) .none kV doc pm an cdv ct) ⟨us, []⟩) (p1 := "self") (p2 := "start") (pv := "tests") (fun _ _ => rfl) (fun _ _ _ _ => rfl)
  exact mk_fnG T FU sc_Suite_init hb (ss := (defBody st_Suite_init).dropLast) rfl ag_Suite_init (by decide) (by decide +kernel) (by decide +kernel) (by decide +kernel) (by decide +kernel) M cl na nb (by decide) hC hfl rfl fun _ _ h => h
abbrev st_Suite_read : Stmt := (inClass (top 37) 1)
theorem sc_Suite_read : FnScope N_Suite_read ["cls", "text"] (defScope st_Suite_read) := ⟨rfl, rfl, rfl, by decide +kernel, rfl, by decide +kernel, by decide +kernel⟩
theorem ag_Suite_read : agSs N_Suite_read nm_Suite_read (defScope st_Suite_read) (fun _ => true) B_Suite_read (defBody st_Suite_read) = true := by decide +kernel
theorem g_Suite_read {P : Program} {w : World} {K : PySem.W.Frag} {mg : Str → Option Value} {base : Heap} {κ : Cs} {k : Nat} {f : Addr} {fd : FuncData} (T : Tab κ (fun f => ([F_numbers_in, F_test_in, F_is_record, F_is_test, F_text_of, F_Suite_mk] : List Fn)[f]?) nm_Suite_read gl_Suite_read k P w K mg base) (FU : Fun K "read" "Suite.read" st_Suite_read f fd) : FnG P w K mg base κ false (k + 2) f F_Suite_read := fnG_of T FU sc_Suite_read (FU.binds fun _ _ _ _ _ _ us hl => match us, hl with | [_, _], _ => rfl) rfl ag_Suite_read (by decide) fun _ _ h => clsRun_of h
abbrev st__law_text : Stmt := (top 57)
theorem sc__law_text : FnScope N__law_text ["_law_start", "_law_tests"] (defScope st__law_text) := ⟨rfl, rfl, rfl, by decide +kernel, rfl, by decide +kernel, by decide +kernel⟩
theorem ag__law_text : agSs N__law_text nm__law_text (defScope st__law_text) (fun _ => true) B__law_text (defBody st__law_text) = true := by decide +kernel
theorem g__law_text {P : Program} {w : World} {K : PySem.W.Frag} {mg : Str → Option Value} {base : Heap} {κ : Cs} {k : Nat} {f : Addr} {fd : FuncData} (T : Tab κ (fun f => ([] : List Fn)[f]?) nm__law_text gl__law_text k P w K mg base) (FU : Fun K "_law_text" "_law_text" st__law_text f fd) : FnG P w K mg base κ false (k + 2) f F__law_text := fnG_of T FU sc__law_text (FU.binds fun _ _ _ _ _ _ us hl => match us, hl with | [_, _], _ => rfl) rfl ag__law_text (by decide) fun _ _ h => h
abbrev st__law_made : Stmt := (top 58)
theorem sc__law_made : FnScope N__law_made ["_law_start", "_law_tests"] (defScope st__law_made) := ⟨rfl, rfl, rfl, by decide +kernel, rfl, by decide +kernel, by decide +kernel⟩
theorem ag__law_made : agSs N__law_made nm__law_made (defScope st__law_made) (fun _ => true) B__law_made (defBody st__law_made) = true := by decide +kernel
theorem g__law_made {P : Program} {w : World} {K : PySem.W.Frag} {mg : Str → Option Value} {base : Heap} {κ : Cs} {k : Nat} {f : Addr} {fd : FuncData} (T : Tab κ (fun f => ([F_Suite_read, F__law_text] : List Fn)[f]?) nm__law_made gl__law_made k P w K mg base) (FU : Fun K "_law_made" "_law_made" st__law_made f fd) : FnG P w K mg base κ false (k + 2) f F__law_made := fnG_of T FU sc__law_made (FU.binds fun _ _ _ _ _ _ us hl => match us, hl with | [_, _], _ => rfl) rfl ag__law_made (by decide) fun _ _ h => h
abbrev st__law_rows : Stmt := (top 62)
theorem sc__law_rows : FnScope N__law_rows ["_law_numbers"] (defScope st__law_rows) := ⟨rfl, rfl, rfl, by decide +kernel, rfl, by decide +kernel, by decide +kernel⟩
theorem ag__law_rows : agSs N__law_rows nm__law_rows (defScope st__law_rows) (fun _ => true) B__law_rows (defBody st__law_rows) = true := by decide +kernel
theorem g__law_rows {P : Program} {w : World} {K : PySem.W.Frag} {mg : Str → Option Value} {base : Heap} {κ : Cs} {k : Nat} {f : Addr} {fd : FuncData} (T : Tab κ (fun f => ([] : List Fn)[f]?) nm__law_rows gl__law_rows k P w K mg base) (FU : Fun K "_law_rows" "_law_rows" st__law_rows f fd) : FnG P w K mg base κ false (k + 2) f F__law_rows := fnG_of T FU sc__law_rows (FU.binds fun _ _ _ _ _ _ us hl => match us, hl with | [_], _ => rfl) rfl ag__law_rows (by decide) fun _ _ h => h
abbrev st__law_others : Stmt := (top 63)
theorem sc__law_others : FnScope N__law_others ["_law_tests", "_law_number"] (defScope st__law_others) := ⟨rfl, rfl, rfl, by decide +kernel, rfl, by decide +kernel, by decide +kernel⟩
theorem ag__law_others : agSs N__law_others nm__law_others (defScope st__law_others) (fun _ => true) B__law_others (defBody st__law_others) = true := by decide +kernel
theorem g__law_others {P : Program} {w : World} {K : PySem.W.Frag} {mg : Str → Option Value} {base : Heap} {κ : Cs} {k : Nat} {f : Addr} {fd : FuncData} (T : Tab κ (fun f => ([] : List Fn)[f]?) nm__law_others gl__law_others k P w K mg base) (FU : Fun K "_law_others" "_law_others" st__law_others f fd) : FnG P w K mg base κ false (k + 2) f F__law_others := fnG_of T FU sc__law_others (FU.binds fun _ _ _ _ _ _ us hl => match us, hl with | [_, _], _ => rfl) rfl ag__law_others (by decide) fun _ _ h => h
abbrev st__law_passes : Stmt := (top 60)
theorem sc__law_passes : FnScope N__law_passes ["_law_record", "_law_test_here"] (defScope st__law_passes) := ⟨rfl, rfl, rfl, by decide +kernel, rfl, by decide +kernel, by decide +kernel⟩
theorem ag__law_passes : agSs N__law_passes nm__law_passes (defScope st__law_passes) (fun _ => true) B__law_passes (defBody st__law_passes) = true := by decide +kernel
theorem g__law_passes {P : Program} {w : World} {K : PySem.W.Frag} {mg : Str → Option Value} {base : Heap} {κ : Cs} {k : Nat} {f : Addr} {fd : FuncData} (T : Tab κ (fun f => ([] : List Fn)[f]?) nm__law_passes gl__law_passes k P w K mg base) (FU : Fun K "_law_passes" "_law_passes" st__law_passes f fd) : FnG P w K mg base κ false (k + 2) f F__law_passes := fnG_of T FU sc__law_passes (FU.binds fun _ _ _ _ _ _ us hl => match us, hl with | [_, _], _ => rfl) rfl ag__law_passes (by decide) fun _ _ h => h
abbrev st__law_behind : Stmt := (top 59)
theorem sc__law_behind : FnScope N__law_behind ["_law_start", "_law_tests", "_law_row"] (defScope st__law_behind) := ⟨rfl, rfl, rfl, by decide +kernel, rfl, by decide +kernel, by decide +kernel⟩
theorem ag__law_behind : agSs N__law_behind nm__law_behind (defScope st__law_behind) (fun _ => true) B__law_behind (defBody st__law_behind) = true := by decide +kernel
theorem g__law_behind {P : Program} {w : World} {K : PySem.W.Frag} {mg : Str → Option Value} {base : Heap} {κ : Cs} {k : Nat} {f : Addr} {fd : FuncData} (T : Tab κ (fun f => ([] : List Fn)[f]?) nm__law_behind gl__law_behind k P w K mg base) (FU : Fun K "_law_behind" "_law_behind" st__law_behind f fd) : FnG P w K mg base κ false (k + 2) f F__law_behind := fnG_of T FU sc__law_behind (FU.binds fun _ _ _ _ _ _ us hl => match us, hl with | [_, _, _], _ => rfl) rfl ag__law_behind (by decide) fun _ _ h => h
abbrev st__law_verdict : Stmt := (top 61)
theorem sc__law_verdict : FnScope N__law_verdict ["_law_start", "_law_tests", "_law_number", "_law_row"] (defScope st__law_verdict) := ⟨rfl, rfl, rfl, by decide +kernel, rfl, by decide +kernel, by decide +kernel⟩
theorem ag__law_verdict : agSs N__law_verdict nm__law_verdict (defScope st__law_verdict) (fun _ => true) B__law_verdict (defBody st__law_verdict) = true := by decide +kernel
theorem g__law_verdict {P : Program} {w : World} {K : PySem.W.Frag} {mg : Str → Option Value} {base : Heap} {κ : Cs} {k : Nat} {f : Addr} {fd : FuncData} (T : Tab κ (fun f => ([F__law_passes, F__law_behind] : List Fn)[f]?) nm__law_verdict gl__law_verdict k P w K mg base) (FU : Fun K "_law_verdict" "_law_verdict" st__law_verdict f fd) : FnG P w K mg base κ false (k + 2) f F__law_verdict := fnG_of T FU sc__law_verdict (FU.binds fun _ _ _ _ _ _ us hl => match us, hl with | [_, _, _, _], _ => rfl) rfl ag__law_verdict (by decide) fun _ _ h => h
abbrev st__law_blamed : Stmt := (top 64)
theorem sc__law_blamed : FnScope N__law_blamed ["_law_start", "_law_tests", "_law_number", "_law_row"] (defScope st__law_blamed) := ⟨rfl, rfl, rfl, by decide +kernel, rfl, by decide +kernel, by decide +kernel⟩
theorem ag__law_blamed : agSs N__law_blamed nm__law_blamed (defScope st__law_blamed) (fun _ => true) B__law_blamed (defBody st__law_blamed) = true := by decide +kernel
theorem g__law_blamed {P : Program} {w : World} {K : PySem.W.Frag} {mg : Str → Option Value} {base : Heap} {κ : Cs} {k : Nat} {f : Addr} {fd : FuncData} (T : Tab κ (fun f => ([F__law_verdict] : List Fn)[f]?) nm__law_blamed gl__law_blamed k P w K mg base) (FU : Fun K "_law_blamed" "_law_blamed" st__law_blamed f fd) : FnG P w K mg base κ false (k + 2) f F__law_blamed := fnG_of T FU sc__law_blamed (FU.binds fun _ _ _ _ _ _ us hl => match us, hl with | [_, _, _, _], _ => rfl) rfl ag__law_blamed (by decide) fun _ _ h => h
abbrev st__law_is_equal : Stmt := (top 54)
theorem sc__law_is_equal : FnScope N__law_is_equal ["_law_actual", "_law_expected"] (defScope st__law_is_equal) := ⟨rfl, rfl, rfl, by decide +kernel, rfl, by decide +kernel, by decide +kernel⟩
theorem ag__law_is_equal : agSs N__law_is_equal nm__law_is_equal (defScope st__law_is_equal) (fun _ => true) B__law_is_equal (defBody st__law_is_equal) = true := by decide +kernel
theorem g__law_is_equal {P : Program} {w : World} {K : PySem.W.Frag} {mg : Str → Option Value} {base : Heap} {κ : Cs} {k : Nat} {f : Addr} {fd : FuncData} (T : Tab κ (fun f => ([] : List Fn)[f]?) nm__law_is_equal gl__law_is_equal k P w K mg base) (FU : Fun K "_law_is_equal" "_law_is_equal" st__law_is_equal f fd) : FnG P w K mg base κ true (k + 2) f F__law_is_equal := fnG_of T FU sc__law_is_equal (FU.binds fun _ _ _ _ _ _ us hl => match us, hl with | [_, _], _ => rfl) rfl ag__law_is_equal (by decide) fun _ _ h => h
abbrev st_need_suite : Stmt := (top 39)
theorem sc_need_suite : FnScope N_need_suite ["thing"] (defScope st_need_suite) := ⟨rfl, rfl, rfl, by decide +kernel, rfl, by decide +kernel, by decide +kernel⟩
theorem ag_need_suite : agSs N_need_suite nm_need_suite (defScope st_need_suite) (fun _ => true) B_need_suite (defBody st_need_suite) = true := by decide +kernel
theorem g_need_suite {P : Program} {w : World} {K : PySem.W.Frag} {mg : Str → Option Value} {base : Heap} {κ : Cs} {k : Nat} {f : Addr} {fd : FuncData} (T : Tab κ (fun f => ([] : List Fn)[f]?) nm_need_suite gl_need_suite k P w K mg base) (FU : Fun K "need_suite" "need_suite" st_need_suite f fd) : FnG P w K mg base κ false (k + 2) f F_need_suite := fnG_of T FU sc_need_suite (FU.binds fun _ _ _ _ _ _ us hl => match us, hl with | [_], _ => rfl) rfl ag_need_suite (by decide) fun _ _ h => h
abbrev st_Suite_len : Stmt := (inClass (top 37) 5)
theorem sc_Suite_len : FnScope N_Suite_len ["self"] (defScope st_Suite_len) := ⟨rfl, rfl, rfl, by decide +kernel, rfl, by decide +kernel, by decide +kernel⟩
theorem ag_Suite_len : agSs N_Suite_len nm_Suite_len (defScope st_Suite_len) (fun _ => true) B_Suite_len (defBody st_Suite_len) = true := by decide +kernel
theorem g_Suite_len {P : Program} {w : World} {K : PySem.W.Frag} {mg : Str → Option Value} {base : Heap} {κ : Cs} {k : Nat} {f : Addr} {fd : FuncData} (T : Tab κ (fun f => ([] : List Fn)[f]?) nm_Suite_len gl_Suite_len k P w K mg base) (FU : Fun K "__len__" "Suite.__len__" st_Suite_len f fd) : FnG P w K mg base κ false (k + 2) f F_Suite_len := fnG_of T FU sc_Suite_len (FU.binds fun _ _ _ _ _ _ us hl => match us, hl with | [_], _ => rfl) rfl ag_Suite_len (by decide) fun _ _ h => lenRun_of (insRun_of h)
abbrev st_need_number : Stmt := (top 40)
theorem sc_need_number : FnScope N_need_number ["suite", "thing"] (defScope st_need_number) := ⟨rfl, rfl, rfl, by decide +kernel, rfl, by decide +kernel, by decide +kernel⟩
theorem ag_need_number : agSs N_need_number nm_need_number (defScope st_need_number) (fun _ => true) B_need_number (defBody st_need_number) = true := by decide +kernel
theorem g_need_number {P : Program} {w : World} {K : PySem.W.Frag} {mg : Str → Option Value} {base : Heap} {κ : Cs} {k : Nat} {f : Addr} {fd : FuncData} (T : Tab κ (fun f => ([F_need_suite, F_is_between, F_Suite_len] : List Fn)[f]?) nm_need_number gl_need_number k P w K mg base) (FU : Fun K "need_number" "need_number" st_need_number f fd) : FnG P w K mg base κ false (k + 2) f F_need_number := fnG_of T FU sc_need_number (FU.binds fun _ _ _ _ _ _ us hl => match us, hl with | [_, _], _ => rfl) rfl ag_need_number (by decide) fun _ _ h => h
abbrev st_are_numbers : Stmt := (top 36)
theorem sc_are_numbers : FnScope N_are_numbers ["thing", "many"] (defScope st_are_numbers) := ⟨rfl, rfl, rfl, by decide +kernel, rfl, by decide +kernel, by decide +kernel⟩
theorem ag_are_numbers : agSs N_are_numbers nm_are_numbers (defScope st_are_numbers) (fun _ => true) B_are_numbers (defBody st_are_numbers) = true := by decide +kernel
theorem g_are_numbers {P : Program} {w : World} {K : PySem.W.Frag} {mg : Str → Option Value} {base : Heap} {κ : Cs} {k : Nat} {f : Addr} {fd : FuncData} (T : Tab κ (fun f => ([F_is_between] : List Fn)[f]?) nm_are_numbers gl_are_numbers k P w K mg base) (FU : Fun K "are_numbers" "are_numbers" st_are_numbers f fd) : FnG P w K mg base κ false (k + 2) f F_are_numbers := fnG_of T FU sc_are_numbers (FU.binds fun _ _ _ _ _ _ us hl => match us, hl with | [_, _], _ => rfl) rfl ag_are_numbers (by decide) fun _ _ h => h
abbrev st_is_row_of_others : Stmt := (top 41)
theorem sc_is_row_of_others : FnScope N_is_row_of_others ["suite", "number", "thing"] (defScope st_is_row_of_others) := ⟨rfl, rfl, rfl, by decide +kernel, rfl, by decide +kernel, by decide +kernel⟩
theorem ag_is_row_of_others : agSs N_is_row_of_others nm_is_row_of_others (defScope st_is_row_of_others) (fun _ => true) B_is_row_of_others (defBody st_is_row_of_others) = true := by decide +kernel
theorem g_is_row_of_others {P : Program} {w : World} {K : PySem.W.Frag} {mg : Str → Option Value} {base : Heap} {κ : Cs} {k : Nat} {f : Addr} {fd : FuncData} (T : Tab κ (fun f => ([F_are_numbers, F_Suite_len] : List Fn)[f]?) nm_is_row_of_others gl_is_row_of_others k P w K mg base) (FU : Fun K "is_row_of_others" "is_row_of_others" st_is_row_of_others f fd) : FnG P w K mg base κ false (k + 2) f F_is_row_of_others := fnG_of T FU sc_is_row_of_others (FU.binds fun _ _ _ _ _ _ us hl => match us, hl with | [_, _, _], _ => rfl) rfl ag_is_row_of_others (by decide) fun _ _ h => h
abbrev st_need_others : Stmt := (top 42)
theorem sc_need_others : FnScope N_need_others ["suite", "number", "thing"] (defScope st_need_others) := ⟨rfl, rfl, rfl, by decide +kernel, rfl, by decide +kernel, by decide +kernel⟩
theorem ag_need_others : agSs N_need_others nm_need_others (defScope st_need_others) (fun _ => true) B_need_others (defBody st_need_others) = true := by decide +kernel
theorem g_need_others {P : Program} {w : World} {K : PySem.W.Frag} {mg : Str → Option Value} {base : Heap} {κ : Cs} {k : Nat} {f : Addr} {fd : FuncData} (T : Tab κ (fun f => ([F_need_number, F_is_row_of_others] : List Fn)[f]?) nm_need_others gl_need_others k P w K mg base) (FU : Fun K "need_others" "need_others" st_need_others f fd) : FnG P w K mg base κ false (k + 2) f F_need_others := fnG_of T FU sc_need_others (FU.binds fun _ _ _ _ _ _ us hl => match us, hl with | [_, _, _], _ => rfl) rfl ag_need_others (by decide) fun _ _ h => h
abbrev st_values_at : Stmt := (top 10)
theorem sc_values_at : FnScope N_values_at ["record", "fields"] (defScope st_values_at) := ⟨rfl, rfl, rfl, by decide +kernel, rfl, by decide +kernel, by decide +kernel⟩
theorem ag_values_at : agSs N_values_at nm_values_at (defScope st_values_at) (fun _ => true) B_values_at (defBody st_values_at) = true := by decide +kernel
theorem g_values_at {P : Program} {w : World} {K : PySem.W.Frag} {mg : Str → Option Value} {base : Heap} {κ : Cs} {k : Nat} {f : Addr} {fd : FuncData} (T : Tab κ (fun f => ([] : List Fn)[f]?) nm_values_at gl_values_at k P w K mg base) (FU : Fun K "values_at" "values_at" st_values_at f fd) : FnG P w K mg base κ false (k + 2) f F_values_at := fnG_of T FU sc_values_at (FU.binds fun _ _ _ _ _ _ us hl => match us, hl with | [_, _], _ => rfl) rfl ag_values_at (by decide) fun _ _ h => h
abbrev st_passes_at : Stmt := (top 13)
theorem sc_passes_at : FnScope N_passes_at ["record", "test"] (defScope st_passes_at) := ⟨rfl, rfl, rfl, by decide +kernel, rfl, by decide +kernel, by decide +kernel⟩
theorem ag_passes_at : agSs N_passes_at nm_passes_at (defScope st_passes_at) (fun _ => true) B_passes_at (defBody st_passes_at) = true := by decide +kernel
theorem g_passes_at {P : Program} {w : World} {K : PySem.W.Frag} {mg : Str → Option Value} {base : Heap} {κ : Cs} {k : Nat} {f : Addr} {fd : FuncData} (T : Tab κ (fun f => ([F_values_at] : List Fn)[f]?) nm_passes_at gl_passes_at k P w K mg base) (FU : Fun K "passes_at" "passes_at" st_passes_at f fd) : FnG P w K mg base κ false (k + 2) f F_passes_at := fnG_of T FU sc_passes_at (FU.binds fun _ _ _ _ _ _ us hl => match us, hl with | [_, _], _ => rfl) rfl ag_passes_at (by decide) fun _ _ h => h
abbrev st_Suite_start : Stmt := (inClass (top 37) 3)
theorem sc_Suite_start : FnScope N_Suite_start ["self"] (defScope st_Suite_start) := ⟨rfl, rfl, rfl, by decide +kernel, rfl, by decide +kernel, by decide +kernel⟩
theorem ag_Suite_start : agSs N_Suite_start nm_Suite_start (defScope st_Suite_start) (fun _ => true) B_Suite_start (defBody st_Suite_start) = true := by decide +kernel
theorem g_Suite_start {P : Program} {w : World} {K : PySem.W.Frag} {mg : Str → Option Value} {base : Heap} {κ : Cs} {k : Nat} {f : Addr} {fd : FuncData} (T : Tab κ (fun f => ([] : List Fn)[f]?) nm_Suite_start gl_Suite_start k P w K mg base) (FU : Fun K "start" "Suite.start" st_Suite_start f fd) : FnG P w K mg base κ false (k + 2) f F_Suite_start := fnG_of T FU sc_Suite_start (FU.binds fun _ _ _ _ _ _ us hl => match us, hl with | [_], _ => rfl) rfl ag_Suite_start (by decide) fun _ _ h => insRun_of h
abbrev st_written : Stmt := (top 11)
theorem sc_written : FnScope N_written ["test"] (defScope st_written) := ⟨rfl, rfl, rfl, by decide +kernel, rfl, by decide +kernel, by decide +kernel⟩
theorem ag_written : agSs N_written nm_written (defScope st_written) (fun _ => true) B_written (defBody st_written) = true := by decide +kernel
theorem g_written {P : Program} {w : World} {K : PySem.W.Frag} {mg : Str → Option Value} {base : Heap} {κ : Cs} {k : Nat} {f : Addr} {fd : FuncData} (T : Tab κ (fun f => ([] : List Fn)[f]?) nm_written gl_written k P w K mg base) (FU : Fun K "written" "written" st_written f fd) : FnG P w K mg base κ false (k + 2) f F_written := fnG_of T FU sc_written (FU.binds fun _ _ _ _ _ _ us hl => match us, hl with | [_], _ => rfl) rfl ag_written (by decide) fun _ _ h => h
abbrev st_record_after : Stmt := (top 12)
theorem sc_record_after : FnScope N_record_after ["record", "test"] (defScope st_record_after) := ⟨rfl, rfl, rfl, by decide +kernel, rfl, by decide +kernel, by decide +kernel⟩
theorem ag_record_after : agSs N_record_after nm_record_after (defScope st_record_after) (fun _ => true) B_record_after (defBody st_record_after) = true := by decide +kernel
theorem g_record_after {P : Program} {w : World} {K : PySem.W.Frag} {mg : Str → Option Value} {base : Heap} {κ : Cs} {k : Nat} {f : Addr} {fd : FuncData} (T : Tab κ (fun f => ([F_written] : List Fn)[f]?) nm_record_after gl_record_after k P w K mg base) (FU : Fun K "record_after" "record_after" st_record_after f fd) : FnG P w K mg base κ false (k + 2) f F_record_after := fnG_of T FU sc_record_after (FU.binds fun _ _ _ _ _ _ us hl => match us, hl with | [_, _], _ => rfl) rfl ag_record_after (by decide) fun _ _ h => h
abbrev st_Suite_getitem : Stmt := (inClass (top 37) 7)
theorem sc_Suite_getitem : FnScope N_Suite_getitem ["self", "number"] (defScope st_Suite_getitem) := ⟨rfl, rfl, rfl, by decide +kernel, rfl, by decide +kernel, by decide +kernel⟩
theorem ag_Suite_getitem : agSs N_Suite_getitem nm_Suite_getitem (defScope st_Suite_getitem) (fun _ => true) B_Suite_getitem (defBody st_Suite_getitem) = true := by decide +kernel
theorem g_Suite_getitem {P : Program} {w : World} {K : PySem.W.Frag} {mg : Str → Option Value} {base : Heap} {κ : Cs} {k : Nat} {f : Addr} {fd : FuncData} (T : Tab κ (fun f => ([F_is_between] : List Fn)[f]?) nm_Suite_getitem gl_Suite_getitem k P w K mg base) (FU : Fun K "__getitem__" "Suite.__getitem__" st_Suite_getitem f fd) : FnG P w K mg base κ false (k + 2) f F_Suite_getitem := fnG_of T FU sc_Suite_getitem (FU.binds fun _ _ _ _ _ _ us hl => match us, hl with | [_, _], _ => rfl) rfl ag_Suite_getitem (by decide) fun _ _ h => insRun_of h
abbrev st_behind : Stmt := (top 44)
theorem sc_behind : FnScope N_behind ["suite", "row"] (defScope st_behind) := ⟨rfl, rfl, rfl, by decide +kernel, rfl, by decide +kernel, by decide +kernel⟩
theorem ag_behind : agSs N_behind nm_behind (defScope st_behind) (fun _ => true) B_behind (defBody st_behind) = true := by decide +kernel
theorem g_behind {P : Program} {w : World} {K : PySem.W.Frag} {mg : Str → Option Value} {base : Heap} {κ : Cs} {k : Nat} {f : Addr} {fd : FuncData} (T : Tab κ (fun f => ([F_Suite_start, F_record_after, F_Suite_getitem] : List Fn)[f]?) nm_behind gl_behind k P w K mg base) (FU : Fun K "behind" "behind" st_behind f fd) : FnG P w K mg base κ false (k + 2) f F_behind := fnG_of T FU sc_behind (FU.binds fun _ _ _ _ _ _ us hl => match us, hl with | [_, _], _ => rfl) rfl ag_behind (by decide) fun _ _ h => h
abbrev st_verdict_of : Stmt := (top 45)
theorem sc_verdict_of : FnScope N_verdict_of ["suite", "number", "row"] (defScope st_verdict_of) := ⟨rfl, rfl, rfl, by decide +kernel, rfl, by decide +kernel, by decide +kernel⟩
theorem ag_verdict_of : agSs N_verdict_of nm_verdict_of (defScope st_verdict_of) (fun _ => true) B_verdict_of (defBody st_verdict_of) = true := by decide +kernel
theorem g_verdict_of {P : Program} {w : World} {K : PySem.W.Frag} {mg : Str → Option Value} {base : Heap} {κ : Cs} {k : Nat} {f : Addr} {fd : FuncData} (T : Tab κ (fun f => ([F_passes_at, F_behind, F_Suite_getitem] : List Fn)[f]?) nm_verdict_of gl_verdict_of k P w K mg base) (FU : Fun K "verdict_of" "verdict_of" st_verdict_of f fd) : FnG P w K mg base κ false (k + 2) f F_verdict_of := fnG_of T FU sc_verdict_of (FU.binds fun _ _ _ _ _ _ us hl => match us, hl with | [_, _, _], _ => rfl) rfl ag_verdict_of (by decide) fun _ _ h => h
abbrev st_parts_of : Stmt := (top 47)
theorem sc_parts_of : FnScope N_parts_of ["row"] (defScope st_parts_of) := ⟨rfl, rfl, rfl, by decide +kernel, rfl, by decide +kernel, by decide +kernel⟩
theorem ag_parts_of : agSs N_parts_of nm_parts_of (defScope st_parts_of) (fun _ => true) B_parts_of (defBody st_parts_of) = true := by decide +kernel
theorem g_parts_of {P : Program} {w : World} {K : PySem.W.Frag} {mg : Str → Option Value} {base : Heap} {κ : Cs} {k : Nat} {f : Addr} {fd : FuncData} (T : Tab κ (fun f => ([] : List Fn)[f]?) nm_parts_of gl_parts_of k P w K mg base) (FU : Fun K "parts_of" "parts_of" st_parts_of f fd) : FnG P w K mg base κ false (k + 2) f F_parts_of := fnG_of T FU sc_parts_of (FU.binds fun _ _ _ _ _ _ us hl => match us, hl with | [_], _ => rfl) rfl ag_parts_of (by decide) fun _ _ h => h
abbrev st_blamed : Stmt := (top 48)
theorem sc_blamed : FnScope N_blamed ["suite", "number", "row"] (defScope st_blamed) := ⟨rfl, rfl, rfl, by decide +kernel, rfl, by decide +kernel, by decide +kernel⟩
theorem ag_blamed : agSs N_blamed nm_blamed (defScope st_blamed) (fun _ => true) B_blamed (defBody st_blamed) = true := by decide +kernel
theorem g_blamed {P : Program} {w : World} {K : PySem.W.Frag} {mg : Str → Option Value} {base : Heap} {κ : Cs} {k : Nat} {f : Addr} {fd : FuncData} (T : Tab κ (fun f => ([F_need_others, F_verdict_of, F_parts_of] : List Fn)[f]?) nm_blamed gl_blamed k P w K mg base) (FU : Fun K "blamed" "blamed" st_blamed f fd) : FnG P w K mg base κ false (k + 2) f F_blamed := fnG_of T FU sc_blamed (FU.binds fun _ _ _ _ _ _ us hl => match us, hl with | [_, _, _], _ => rfl) rfl ag_blamed (by decide) fun _ _ h => h
abbrev st_law : Stmt := (top 65)
theorem sc_law : FnScope N_law ["_law_script"] (defScope st_law) := ⟨rfl, rfl, rfl, by decide +kernel, rfl, by decide +kernel, by decide +kernel⟩
theorem ag_law : agSs N_law nm_law (defScope st_law) (fun _ => true) B_law (defBody st_law) = true := by decide +kernel
theorem g_law {P : Program} {w : World} {K : PySem.W.Frag} {mg : Str → Option Value} {base : Heap} {κ : Cs} {k : Nat} {f : Addr} {fd : FuncData} (T : Tab κ (fun f => ([F__law_source, F__law_cell, F__law_suite, F__law_made, F__law_rows, F__law_others, F__law_draw, F__law_blamed, F__law_is_equal, F_blamed] : List Fn)[f]?) nm_law gl_law k P w K mg base) (FU : Fun K "law" "law" st_law f fd) : FnG P w K mg base κ true (k + 2) f F_law := fnG_of T FU sc_law (FU.binds fun _ _ _ _ _ _ us hl => match us, hl with | [_], _ => rfl) rfl ag_law (by decide) fun _ _ h => h
end DT

end
section
/-! law_k63_what_is_to_blame: the walk's assembly (printed by gen_all.py) -/
namespace DT
open PySem PySem.Spec PyProof.Rows L2
set_option autoImplicit true in
theorem all_mk {l : PySem.W.OpenLaw} {w : World} {K : PySem.W.Frag} {h : Heap} {mg : Str → Option Value} {fa : Addr} (X : K.In h) (G : h.Ns mainGlobals mg) (hfa : mg "law" = some (.ref fa))
    (hrun : ∀ ns : List Int, ns.length ≤ 63 → F_law.run [.lst (ns.map D.int)] = some (.val (.bl true), []))
    (aC : PySem.W.nsIn K mainGlobals "Suite" = some (some (.ref C)))
    (pg : PySem.W.plainGet K C Str.empty = true)
    (hd : PySem.W.hasDictIn K C = true)
    (po : PySem.W.plainOver K C = true)
    (sa : PySem.W.findIn K (.ref C) "__setattr__" = some (some (.builtin "object.__setattr__")))
    (mk : PySem.W.makesIn K C = true)
    (kC : PySem.W.keepIn K (.ref C) = true)
    (nA : PySem.W.findIn K (.ref C) "first" = some none)
    (nB : PySem.W.findIn K (.ref C) "kept" = some none)
    (z_len : PySem.W.nsIn K mainGlobals "len" = some none)
    (z_tuple : PySem.W.nsIn K mainGlobals "tuple" = some none)
    (z_list : PySem.W.nsIn K mainGlobals "list" = some none)
    (z_all : PySem.W.nsIn K mainGlobals "all" = some none)
    (z_any : PySem.W.nsIn K mainGlobals "any" = some none)
    (z_str : PySem.W.nsIn K mainGlobals "str" = some none)
    (z_repr : PySem.W.nsIn K mainGlobals "repr" = some none)
    (z_max : PySem.W.nsIn K mainGlobals "max" = some none)
    (z_min : PySem.W.nsIn K mainGlobals "min" = some none)
    (z_range : PySem.W.nsIn K mainGlobals "range" = some none)
    (z_zip : PySem.W.nsIn K mainGlobals "zip" = some none)
    (z_enumerate : PySem.W.nsIn K mainGlobals "enumerate" = some none)
    (z_set : PySem.W.nsIn K mainGlobals "set" = some none)
    (z_sorted : PySem.W.nsIn K mainGlobals "sorted" = some none)
    (z_isinstance : PySem.W.nsIn K mainGlobals "isinstance" = some none)
    (z_dict : PySem.W.nsIn K mainGlobals "dict" = some none)
    (z_int : PySem.W.nsIn K mainGlobals "int" = some none)
    (z_bool : PySem.W.nsIn K mainGlobals "bool" = some none)
    (c_NONE : PySem.W.nsIn K mainGlobals "NONE" = some (some (.str "-" t_NONE)))
    (c_BAR : PySem.W.nsIn K mainGlobals "BAR" = some (some (.str " | " t_BAR)))
    (c_ANY : PySem.W.nsIn K mainGlobals "ANY" = some (some (.str "any" t_ANY)))
    (c_MOST_VALUE : PySem.W.nsIn K mainGlobals "MOST_VALUE" = some (some (.int 2 t_MOST_VALUE)))
    (c_MOST_FIELDS : PySem.W.nsIn K mainGlobals "MOST_FIELDS" = some (some (.int 5 t_MOST_FIELDS)))
    (c_MOST_READS : PySem.W.nsIn K mainGlobals "MOST_READS" = some (some (.int 3 t_MOST_READS)))
    (c_HEAD : PySem.W.nsIn K mainGlobals "HEAD" = some (some (.str "start " t_HEAD)))
    (c_MOST_TESTS : PySem.W.nsIn K mainGlobals "MOST_TESTS" = some (some (.int 6 t_MOST_TESTS)))
    (d_SIGNS : PySem.W.nsIn K mainGlobals "SIGNS" = some (some (.ref a_SIGNS)))
    (e_SIGNS : K.lookup a_SIGNS = some ⟨.type "dict", none, .dict es_SIGNS n_SIGNS, #[]⟩)
    (f_SIGNS : PySem.W.KeysLit w.params es_SIGNS.toList)
    (h_SIGNS : Ents es_SIGNS.toList T_SIGNS)
    (l_SIGNS : (a_SIGNS == sysModules) = false)
    (i1 : PySem.W.findIn K (.ref C) "__class__" = some (some (.builtin "object.__class__")))
    (i2 : PySem.W.specialIn K (.builtin "object.__class__") "__get__" = some (some (.builtin "getset_descriptor.__get__")))
    (i3 : PySem.W.takesIn K (.builtin "object.__class__") = some true)
    (i4 : PySem.W.mroIn K C (.type "object") = some true)
    (a__law_source : PySem.W.nsIn K mainGlobals "_law_source" = some (some (.ref f__law_source)))
    (l__law_source : K.lookup f__law_source = some ⟨oc__law_source, od__law_source, .func (PySem.W.fnOf "_law_source" "_law_source" (defArgs st__law_source) (defBody st__law_source) (defScope st__law_source) .none kV__law_source dc__law_source pm__law_source an__law_source cd__law_source ct__law_source), sl__law_source⟩)
    (c__law_source : PySem.W.codeIn K cd__law_source "_law_source" = true)
    (k__law_source : PySem.W.keepIn K (.ref f__law_source) = true)
    (a__law_cell : PySem.W.nsIn K mainGlobals "_law_cell" = some (some (.ref f__law_cell)))
    (l__law_cell : K.lookup f__law_cell = some ⟨oc__law_cell, od__law_cell, .func (PySem.W.fnOf "_law_cell" "_law_cell" (defArgs st__law_cell) (defBody st__law_cell) (defScope st__law_cell) .none kV__law_cell dc__law_cell pm__law_cell an__law_cell cd__law_cell ct__law_cell), sl__law_cell⟩)
    (c__law_cell : PySem.W.codeIn K cd__law_cell "_law_cell" = true)
    (k__law_cell : PySem.W.keepIn K (.ref f__law_cell) = true)
    (a__law_draw : PySem.W.nsIn K mainGlobals "_law_draw" = some (some (.ref f__law_draw)))
    (l__law_draw : K.lookup f__law_draw = some ⟨oc__law_draw, od__law_draw, .func (PySem.W.fnOf "_law_draw" "_law_draw" (defArgs st__law_draw) (defBody st__law_draw) (defScope st__law_draw) .none kV__law_draw dc__law_draw pm__law_draw an__law_draw cd__law_draw ct__law_draw), sl__law_draw⟩)
    (c__law_draw : PySem.W.codeIn K cd__law_draw "_law_draw" = true)
    (k__law_draw : PySem.W.keepIn K (.ref f__law_draw) = true)
    (a__law_choose : PySem.W.nsIn K mainGlobals "_law_choose" = some (some (.ref f__law_choose)))
    (l__law_choose : K.lookup f__law_choose = some ⟨oc__law_choose, od__law_choose, .func (PySem.W.fnOf "_law_choose" "_law_choose" (defArgs st__law_choose) (defBody st__law_choose) (defScope st__law_choose) .none kV__law_choose dc__law_choose pm__law_choose an__law_choose cd__law_choose ct__law_choose), sl__law_choose⟩)
    (c__law_choose : PySem.W.codeIn K cd__law_choose "_law_choose" = true)
    (k__law_choose : PySem.W.keepIn K (.ref f__law_choose) = true)
    (a__law_test : PySem.W.nsIn K mainGlobals "_law_test" = some (some (.ref f__law_test)))
    (l__law_test : K.lookup f__law_test = some ⟨oc__law_test, od__law_test, .func (PySem.W.fnOf "_law_test" "_law_test" (defArgs st__law_test) (defBody st__law_test) (defScope st__law_test) .none kV__law_test dc__law_test pm__law_test an__law_test cd__law_test ct__law_test), sl__law_test⟩)
    (c__law_test : PySem.W.codeIn K cd__law_test "_law_test" = true)
    (k__law_test : PySem.W.keepIn K (.ref f__law_test) = true)
    (a__law_suite : PySem.W.nsIn K mainGlobals "_law_suite" = some (some (.ref f__law_suite)))
    (l__law_suite : K.lookup f__law_suite = some ⟨oc__law_suite, od__law_suite, .func (PySem.W.fnOf "_law_suite" "_law_suite" (defArgs st__law_suite) (defBody st__law_suite) (defScope st__law_suite) .none kV__law_suite dc__law_suite pm__law_suite an__law_suite cd__law_suite ct__law_suite), sl__law_suite⟩)
    (c__law_suite : PySem.W.codeIn K cd__law_suite "_law_suite" = true)
    (k__law_suite : PySem.W.keepIn K (.ref f__law_suite) = true)
    (a_numbers_in : PySem.W.nsIn K mainGlobals "numbers_in" = some (some (.ref f_numbers_in)))
    (l_numbers_in : K.lookup f_numbers_in = some ⟨oc_numbers_in, od_numbers_in, .func (PySem.W.fnOf "numbers_in" "numbers_in" (defArgs st_numbers_in) (defBody st_numbers_in) (defScope st_numbers_in) .none kV_numbers_in dc_numbers_in pm_numbers_in an_numbers_in cd_numbers_in ct_numbers_in), sl_numbers_in⟩)
    (c_numbers_in : PySem.W.codeIn K cd_numbers_in "numbers_in" = true)
    (k_numbers_in : PySem.W.keepIn K (.ref f_numbers_in) = true)
    (a_words_in : PySem.W.nsIn K mainGlobals "words_in" = some (some (.ref f_words_in)))
    (l_words_in : K.lookup f_words_in = some ⟨oc_words_in, od_words_in, .func (PySem.W.fnOf "words_in" "words_in" (defArgs st_words_in) (defBody st_words_in) (defScope st_words_in) .none kV_words_in dc_words_in pm_words_in an_words_in cd_words_in ct_words_in), sl_words_in⟩)
    (c_words_in : PySem.W.codeIn K cd_words_in "words_in" = true)
    (k_words_in : PySem.W.keepIn K (.ref f_words_in) = true)
    (a_test_in : PySem.W.nsIn K mainGlobals "test_in" = some (some (.ref f_test_in)))
    (l_test_in : K.lookup f_test_in = some ⟨oc_test_in, od_test_in, .func (PySem.W.fnOf "test_in" "test_in" (defArgs st_test_in) (defBody st_test_in) (defScope st_test_in) .none kV_test_in dc_test_in pm_test_in an_test_in cd_test_in ct_test_in), sl_test_in⟩)
    (c_test_in : PySem.W.codeIn K cd_test_in "test_in" = true)
    (k_test_in : PySem.W.keepIn K (.ref f_test_in) = true)
    (a_is_between : PySem.W.nsIn K mainGlobals "is_between" = some (some (.ref f_is_between)))
    (l_is_between : K.lookup f_is_between = some ⟨oc_is_between, od_is_between, .func (PySem.W.fnOf "is_between" "is_between" (defArgs st_is_between) (defBody st_is_between) (defScope st_is_between) .none kV_is_between dc_is_between pm_is_between an_is_between cd_is_between ct_is_between), sl_is_between⟩)
    (c_is_between : PySem.W.codeIn K cd_is_between "is_between" = true)
    (k_is_between : PySem.W.keepIn K (.ref f_is_between) = true)
    (a_are_between : PySem.W.nsIn K mainGlobals "are_between" = some (some (.ref f_are_between)))
    (l_are_between : K.lookup f_are_between = some ⟨oc_are_between, od_are_between, .func (PySem.W.fnOf "are_between" "are_between" (defArgs st_are_between) (defBody st_are_between) (defScope st_are_between) .none kV_are_between dc_are_between pm_are_between an_are_between cd_are_between ct_are_between), sl_are_between⟩)
    (c_are_between : PySem.W.codeIn K cd_are_between "are_between" = true)
    (k_are_between : PySem.W.keepIn K (.ref f_are_between) = true)
    (a_is_record : PySem.W.nsIn K mainGlobals "is_record" = some (some (.ref f_is_record)))
    (l_is_record : K.lookup f_is_record = some ⟨oc_is_record, od_is_record, .func (PySem.W.fnOf "is_record" "is_record" (defArgs st_is_record) (defBody st_is_record) (defScope st_is_record) .none kV_is_record dc_is_record pm_is_record an_is_record cd_is_record ct_is_record), sl_is_record⟩)
    (c_is_record : PySem.W.codeIn K cd_is_record "is_record" = true)
    (k_is_record : PySem.W.keepIn K (.ref f_is_record) = true)
    (a_ascends : PySem.W.nsIn K mainGlobals "ascends" = some (some (.ref f_ascends)))
    (l_ascends : K.lookup f_ascends = some ⟨oc_ascends, od_ascends, .func (PySem.W.fnOf "ascends" "ascends" (defArgs st_ascends) (defBody st_ascends) (defScope st_ascends) .none kV_ascends dc_ascends pm_ascends an_ascends cd_ascends ct_ascends), sl_ascends⟩)
    (c_ascends : PySem.W.codeIn K cd_ascends "ascends" = true)
    (k_ascends : PySem.W.keepIn K (.ref f_ascends) = true)
    (a_are_writes : PySem.W.nsIn K mainGlobals "are_writes" = some (some (.ref f_are_writes)))
    (l_are_writes : K.lookup f_are_writes = some ⟨oc_are_writes, od_are_writes, .func (PySem.W.fnOf "are_writes" "are_writes" (defArgs st_are_writes) (defBody st_are_writes) (defScope st_are_writes) .none kV_are_writes dc_are_writes pm_are_writes an_are_writes cd_are_writes ct_are_writes), sl_are_writes⟩)
    (c_are_writes : PySem.W.codeIn K cd_are_writes "are_writes" = true)
    (k_are_writes : PySem.W.keepIn K (.ref f_are_writes) = true)
    (a_is_test : PySem.W.nsIn K mainGlobals "is_test" = some (some (.ref f_is_test)))
    (l_is_test : K.lookup f_is_test = some ⟨oc_is_test, od_is_test, .func (PySem.W.fnOf "is_test" "is_test" (defArgs st_is_test) (defBody st_is_test) (defScope st_is_test) .none kV_is_test dc_is_test pm_is_test an_is_test cd_is_test ct_is_test), sl_is_test⟩)
    (c_is_test : PySem.W.codeIn K cd_is_test "is_test" = true)
    (k_is_test : PySem.W.keepIn K (.ref f_is_test) = true)
    (a_joined : PySem.W.nsIn K mainGlobals "joined" = some (some (.ref f_joined)))
    (l_joined : K.lookup f_joined = some ⟨oc_joined, od_joined, .func (PySem.W.fnOf "joined" "joined" (defArgs st_joined) (defBody st_joined) (defScope st_joined) .none kV_joined dc_joined pm_joined an_joined cd_joined ct_joined), sl_joined⟩)
    (c_joined : PySem.W.codeIn K cd_joined "joined" = true)
    (k_joined : PySem.W.keepIn K (.ref f_joined) = true)
    (a_line_of : PySem.W.nsIn K mainGlobals "line_of" = some (some (.ref f_line_of)))
    (l_line_of : K.lookup f_line_of = some ⟨oc_line_of, od_line_of, .func (PySem.W.fnOf "line_of" "line_of" (defArgs st_line_of) (defBody st_line_of) (defScope st_line_of) .none kV_line_of dc_line_of pm_line_of an_line_of cd_line_of ct_line_of), sl_line_of⟩)
    (c_line_of : PySem.W.codeIn K cd_line_of "line_of" = true)
    (k_line_of : PySem.W.keepIn K (.ref f_line_of) = true)
    (a_text_of : PySem.W.nsIn K mainGlobals "text_of" = some (some (.ref f_text_of)))
    (l_text_of : K.lookup f_text_of = some ⟨oc_text_of, od_text_of, .func (PySem.W.fnOf "text_of" "text_of" (defArgs st_text_of) (defBody st_text_of) (defScope st_text_of) .none kV_text_of dc_text_of pm_text_of an_text_of cd_text_of ct_text_of), sl_text_of⟩)
    (c_text_of : PySem.W.codeIn K cd_text_of "text_of" = true)
    (k_text_of : PySem.W.keepIn K (.ref f_text_of) = true)
    (p1_Suite_init : PySem.W.findIn K (.ref C) "__init__" = some (some (.ref f_Suite_init)))
    (p2_Suite_init : PySem.W.isFn K (.ref f_Suite_init) = true)
    (l_Suite_init : K.lookup f_Suite_init = some ⟨oc_Suite_init, od_Suite_init, .func (PySem.W.fnOf "__init__" "Suite.__init__" (defArgs st_Suite_init) (defBody st_Suite_init) (defScope st_Suite_init) .none kV_Suite_init dc_Suite_init pm_Suite_init an_Suite_init cd_Suite_init ct_Suite_init), sl_Suite_init⟩)
    (c_Suite_init : PySem.W.codeIn K cd_Suite_init "Suite.__init__" = true)
    (k_Suite_init : PySem.W.keepIn K (.ref f_Suite_init) = true)
    (p0_Suite_read : PySem.W.readsIn K C (.type "type") = true)
    (p1_Suite_read : PySem.W.specialIn K (.ref C) "__getattribute__" = some (some (.builtin "type.__getattribute__")))
    (p2_Suite_read : PySem.W.findCls K (.ref C) (.type "type") "read" = some (.get (.builtin "classmethod.__get__") (.ref p_Suite_read) .none (.ref C)))
    (p3_Suite_read : PySem.W.recIn K p_Suite_read "classmethod" = some (.ref f_Suite_read :: r_Suite_read))
    (p4_Suite_read : PySem.W.fnIn K f_Suite_read = true)
    (l_Suite_read : K.lookup f_Suite_read = some ⟨oc_Suite_read, od_Suite_read, .func (PySem.W.fnOf "read" "Suite.read" (defArgs st_Suite_read) (defBody st_Suite_read) (defScope st_Suite_read) .none kV_Suite_read dc_Suite_read pm_Suite_read an_Suite_read cd_Suite_read ct_Suite_read), sl_Suite_read⟩)
    (c_Suite_read : PySem.W.codeIn K cd_Suite_read "Suite.read" = true)
    (k_Suite_read : PySem.W.keepIn K (.ref f_Suite_read) = true)
    (a__law_text : PySem.W.nsIn K mainGlobals "_law_text" = some (some (.ref f__law_text)))
    (l__law_text : K.lookup f__law_text = some ⟨oc__law_text, od__law_text, .func (PySem.W.fnOf "_law_text" "_law_text" (defArgs st__law_text) (defBody st__law_text) (defScope st__law_text) .none kV__law_text dc__law_text pm__law_text an__law_text cd__law_text ct__law_text), sl__law_text⟩)
    (c__law_text : PySem.W.codeIn K cd__law_text "_law_text" = true)
    (k__law_text : PySem.W.keepIn K (.ref f__law_text) = true)
    (a__law_made : PySem.W.nsIn K mainGlobals "_law_made" = some (some (.ref f__law_made)))
    (l__law_made : K.lookup f__law_made = some ⟨oc__law_made, od__law_made, .func (PySem.W.fnOf "_law_made" "_law_made" (defArgs st__law_made) (defBody st__law_made) (defScope st__law_made) .none kV__law_made dc__law_made pm__law_made an__law_made cd__law_made ct__law_made), sl__law_made⟩)
    (c__law_made : PySem.W.codeIn K cd__law_made "_law_made" = true)
    (k__law_made : PySem.W.keepIn K (.ref f__law_made) = true)
    (a__law_rows : PySem.W.nsIn K mainGlobals "_law_rows" = some (some (.ref f__law_rows)))
    (l__law_rows : K.lookup f__law_rows = some ⟨oc__law_rows, od__law_rows, .func (PySem.W.fnOf "_law_rows" "_law_rows" (defArgs st__law_rows) (defBody st__law_rows) (defScope st__law_rows) .none kV__law_rows dc__law_rows pm__law_rows an__law_rows cd__law_rows ct__law_rows), sl__law_rows⟩)
    (c__law_rows : PySem.W.codeIn K cd__law_rows "_law_rows" = true)
    (k__law_rows : PySem.W.keepIn K (.ref f__law_rows) = true)
    (a__law_others : PySem.W.nsIn K mainGlobals "_law_others" = some (some (.ref f__law_others)))
    (l__law_others : K.lookup f__law_others = some ⟨oc__law_others, od__law_others, .func (PySem.W.fnOf "_law_others" "_law_others" (defArgs st__law_others) (defBody st__law_others) (defScope st__law_others) .none kV__law_others dc__law_others pm__law_others an__law_others cd__law_others ct__law_others), sl__law_others⟩)
    (c__law_others : PySem.W.codeIn K cd__law_others "_law_others" = true)
    (k__law_others : PySem.W.keepIn K (.ref f__law_others) = true)
    (a__law_passes : PySem.W.nsIn K mainGlobals "_law_passes" = some (some (.ref f__law_passes)))
    (l__law_passes : K.lookup f__law_passes = some ⟨oc__law_passes, od__law_passes, .func (PySem.W.fnOf "_law_passes" "_law_passes" (defArgs st__law_passes) (defBody st__law_passes) (defScope st__law_passes) .none kV__law_passes dc__law_passes pm__law_passes an__law_passes cd__law_passes ct__law_passes), sl__law_passes⟩)
    (c__law_passes : PySem.W.codeIn K cd__law_passes "_law_passes" = true)
    (k__law_passes : PySem.W.keepIn K (.ref f__law_passes) = true)
    (a__law_behind : PySem.W.nsIn K mainGlobals "_law_behind" = some (some (.ref f__law_behind)))
    (l__law_behind : K.lookup f__law_behind = some ⟨oc__law_behind, od__law_behind, .func (PySem.W.fnOf "_law_behind" "_law_behind" (defArgs st__law_behind) (defBody st__law_behind) (defScope st__law_behind) .none kV__law_behind dc__law_behind pm__law_behind an__law_behind cd__law_behind ct__law_behind), sl__law_behind⟩)
    (c__law_behind : PySem.W.codeIn K cd__law_behind "_law_behind" = true)
    (k__law_behind : PySem.W.keepIn K (.ref f__law_behind) = true)
    (a__law_verdict : PySem.W.nsIn K mainGlobals "_law_verdict" = some (some (.ref f__law_verdict)))
    (l__law_verdict : K.lookup f__law_verdict = some ⟨oc__law_verdict, od__law_verdict, .func (PySem.W.fnOf "_law_verdict" "_law_verdict" (defArgs st__law_verdict) (defBody st__law_verdict) (defScope st__law_verdict) .none kV__law_verdict dc__law_verdict pm__law_verdict an__law_verdict cd__law_verdict ct__law_verdict), sl__law_verdict⟩)
    (c__law_verdict : PySem.W.codeIn K cd__law_verdict "_law_verdict" = true)
    (k__law_verdict : PySem.W.keepIn K (.ref f__law_verdict) = true)
    (a__law_blamed : PySem.W.nsIn K mainGlobals "_law_blamed" = some (some (.ref f__law_blamed)))
    (l__law_blamed : K.lookup f__law_blamed = some ⟨oc__law_blamed, od__law_blamed, .func (PySem.W.fnOf "_law_blamed" "_law_blamed" (defArgs st__law_blamed) (defBody st__law_blamed) (defScope st__law_blamed) .none kV__law_blamed dc__law_blamed pm__law_blamed an__law_blamed cd__law_blamed ct__law_blamed), sl__law_blamed⟩)
    (c__law_blamed : PySem.W.codeIn K cd__law_blamed "_law_blamed" = true)
    (k__law_blamed : PySem.W.keepIn K (.ref f__law_blamed) = true)
    (a__law_is_equal : PySem.W.nsIn K mainGlobals "_law_is_equal" = some (some (.ref f__law_is_equal)))
    (l__law_is_equal : K.lookup f__law_is_equal = some ⟨oc__law_is_equal, od__law_is_equal, .func (PySem.W.fnOf "_law_is_equal" "_law_is_equal" (defArgs st__law_is_equal) (defBody st__law_is_equal) (defScope st__law_is_equal) .none kV__law_is_equal dc__law_is_equal pm__law_is_equal an__law_is_equal cd__law_is_equal ct__law_is_equal), sl__law_is_equal⟩)
    (c__law_is_equal : PySem.W.codeIn K cd__law_is_equal "_law_is_equal" = true)
    (k__law_is_equal : PySem.W.keepIn K (.ref f__law_is_equal) = true)
    (a_need_suite : PySem.W.nsIn K mainGlobals "need_suite" = some (some (.ref f_need_suite)))
    (l_need_suite : K.lookup f_need_suite = some ⟨oc_need_suite, od_need_suite, .func (PySem.W.fnOf "need_suite" "need_suite" (defArgs st_need_suite) (defBody st_need_suite) (defScope st_need_suite) .none kV_need_suite dc_need_suite pm_need_suite an_need_suite cd_need_suite ct_need_suite), sl_need_suite⟩)
    (c_need_suite : PySem.W.codeIn K cd_need_suite "need_suite" = true)
    (k_need_suite : PySem.W.keepIn K (.ref f_need_suite) = true)
    (p1_Suite_len : PySem.W.findIn K (.ref C) "__len__" = some (some (.ref f_Suite_len)))
    (p2_Suite_len : PySem.W.isFn K (.ref f_Suite_len) = true)
    (l_Suite_len : K.lookup f_Suite_len = some ⟨oc_Suite_len, od_Suite_len, .func (PySem.W.fnOf "__len__" "Suite.__len__" (defArgs st_Suite_len) (defBody st_Suite_len) (defScope st_Suite_len) .none kV_Suite_len dc_Suite_len pm_Suite_len an_Suite_len cd_Suite_len ct_Suite_len), sl_Suite_len⟩)
    (c_Suite_len : PySem.W.codeIn K cd_Suite_len "Suite.__len__" = true)
    (k_Suite_len : PySem.W.keepIn K (.ref f_Suite_len) = true)
    (a_need_number : PySem.W.nsIn K mainGlobals "need_number" = some (some (.ref f_need_number)))
    (l_need_number : K.lookup f_need_number = some ⟨oc_need_number, od_need_number, .func (PySem.W.fnOf "need_number" "need_number" (defArgs st_need_number) (defBody st_need_number) (defScope st_need_number) .none kV_need_number dc_need_number pm_need_number an_need_number cd_need_number ct_need_number), sl_need_number⟩)
    (c_need_number : PySem.W.codeIn K cd_need_number "need_number" = true)
    (k_need_number : PySem.W.keepIn K (.ref f_need_number) = true)
    (a_are_numbers : PySem.W.nsIn K mainGlobals "are_numbers" = some (some (.ref f_are_numbers)))
    (l_are_numbers : K.lookup f_are_numbers = some ⟨oc_are_numbers, od_are_numbers, .func (PySem.W.fnOf "are_numbers" "are_numbers" (defArgs st_are_numbers) (defBody st_are_numbers) (defScope st_are_numbers) .none kV_are_numbers dc_are_numbers pm_are_numbers an_are_numbers cd_are_numbers ct_are_numbers), sl_are_numbers⟩)
    (c_are_numbers : PySem.W.codeIn K cd_are_numbers "are_numbers" = true)
    (k_are_numbers : PySem.W.keepIn K (.ref f_are_numbers) = true)
    (a_is_row_of_others : PySem.W.nsIn K mainGlobals "is_row_of_others" = some (some (.ref f_is_row_of_others)))
    (l_is_row_of_others : K.lookup f_is_row_of_others = some ⟨oc_is_row_of_others, od_is_row_of_others, .func (PySem.W.fnOf "is_row_of_others" "is_row_of_others" (defArgs st_is_row_of_others) (defBody st_is_row_of_others) (defScope st_is_row_of_others) .none kV_is_row_of_others dc_is_row_of_others pm_is_row_of_others an_is_row_of_others cd_is_row_of_others ct_is_row_of_others), sl_is_row_of_others⟩)
    (c_is_row_of_others : PySem.W.codeIn K cd_is_row_of_others "is_row_of_others" = true)
    (k_is_row_of_others : PySem.W.keepIn K (.ref f_is_row_of_others) = true)
    (a_need_others : PySem.W.nsIn K mainGlobals "need_others" = some (some (.ref f_need_others)))
    (l_need_others : K.lookup f_need_others = some ⟨oc_need_others, od_need_others, .func (PySem.W.fnOf "need_others" "need_others" (defArgs st_need_others) (defBody st_need_others) (defScope st_need_others) .none kV_need_others dc_need_others pm_need_others an_need_others cd_need_others ct_need_others), sl_need_others⟩)
    (c_need_others : PySem.W.codeIn K cd_need_others "need_others" = true)
    (k_need_others : PySem.W.keepIn K (.ref f_need_others) = true)
    (a_values_at : PySem.W.nsIn K mainGlobals "values_at" = some (some (.ref f_values_at)))
    (l_values_at : K.lookup f_values_at = some ⟨oc_values_at, od_values_at, .func (PySem.W.fnOf "values_at" "values_at" (defArgs st_values_at) (defBody st_values_at) (defScope st_values_at) .none kV_values_at dc_values_at pm_values_at an_values_at cd_values_at ct_values_at), sl_values_at⟩)
    (c_values_at : PySem.W.codeIn K cd_values_at "values_at" = true)
    (k_values_at : PySem.W.keepIn K (.ref f_values_at) = true)
    (a_passes_at : PySem.W.nsIn K mainGlobals "passes_at" = some (some (.ref f_passes_at)))
    (l_passes_at : K.lookup f_passes_at = some ⟨oc_passes_at, od_passes_at, .func (PySem.W.fnOf "passes_at" "passes_at" (defArgs st_passes_at) (defBody st_passes_at) (defScope st_passes_at) .none kV_passes_at dc_passes_at pm_passes_at an_passes_at cd_passes_at ct_passes_at), sl_passes_at⟩)
    (c_passes_at : PySem.W.codeIn K cd_passes_at "passes_at" = true)
    (k_passes_at : PySem.W.keepIn K (.ref f_passes_at) = true)
    (p1_Suite_start : PySem.W.findIn K (.ref C) "start" = some (some (.ref p_Suite_start)))
    (p4_Suite_start : PySem.W.recIn K p_Suite_start "property" = some (.ref f_Suite_start :: r_Suite_start))
    (p2_Suite_start : PySem.W.specialIn K (.ref p_Suite_start) "__get__" = some (some (.builtin "property.__get__")))
    (p3_Suite_start : PySem.W.takesIn K (.ref p_Suite_start) = some true)
    (l_Suite_start : K.lookup f_Suite_start = some ⟨oc_Suite_start, od_Suite_start, .func (PySem.W.fnOf "start" "Suite.start" (defArgs st_Suite_start) (defBody st_Suite_start) (defScope st_Suite_start) .none kV_Suite_start dc_Suite_start pm_Suite_start an_Suite_start cd_Suite_start ct_Suite_start), sl_Suite_start⟩)
    (c_Suite_start : PySem.W.codeIn K cd_Suite_start "Suite.start" = true)
    (k_Suite_start : PySem.W.keepIn K (.ref f_Suite_start) = true)
    (a_written : PySem.W.nsIn K mainGlobals "written" = some (some (.ref f_written)))
    (l_written : K.lookup f_written = some ⟨oc_written, od_written, .func (PySem.W.fnOf "written" "written" (defArgs st_written) (defBody st_written) (defScope st_written) .none kV_written dc_written pm_written an_written cd_written ct_written), sl_written⟩)
    (c_written : PySem.W.codeIn K cd_written "written" = true)
    (k_written : PySem.W.keepIn K (.ref f_written) = true)
    (a_record_after : PySem.W.nsIn K mainGlobals "record_after" = some (some (.ref f_record_after)))
    (l_record_after : K.lookup f_record_after = some ⟨oc_record_after, od_record_after, .func (PySem.W.fnOf "record_after" "record_after" (defArgs st_record_after) (defBody st_record_after) (defScope st_record_after) .none kV_record_after dc_record_after pm_record_after an_record_after cd_record_after ct_record_after), sl_record_after⟩)
    (c_record_after : PySem.W.codeIn K cd_record_after "record_after" = true)
    (k_record_after : PySem.W.keepIn K (.ref f_record_after) = true)
    (p1_Suite_getitem : PySem.W.findIn K (.ref C) "__getitem__" = some (some (.ref f_Suite_getitem)))
    (p2_Suite_getitem : PySem.W.isFn K (.ref f_Suite_getitem) = true)
    (p3_Suite_getitem : PySem.W.fnIn K f_Suite_getitem = true)
    (l_Suite_getitem : K.lookup f_Suite_getitem = some ⟨oc_Suite_getitem, od_Suite_getitem, .func (PySem.W.fnOf "__getitem__" "Suite.__getitem__" (defArgs st_Suite_getitem) (defBody st_Suite_getitem) (defScope st_Suite_getitem) .none kV_Suite_getitem dc_Suite_getitem pm_Suite_getitem an_Suite_getitem cd_Suite_getitem ct_Suite_getitem), sl_Suite_getitem⟩)
    (c_Suite_getitem : PySem.W.codeIn K cd_Suite_getitem "Suite.__getitem__" = true)
    (k_Suite_getitem : PySem.W.keepIn K (.ref f_Suite_getitem) = true)
    (a_behind : PySem.W.nsIn K mainGlobals "behind" = some (some (.ref f_behind)))
    (l_behind : K.lookup f_behind = some ⟨oc_behind, od_behind, .func (PySem.W.fnOf "behind" "behind" (defArgs st_behind) (defBody st_behind) (defScope st_behind) .none kV_behind dc_behind pm_behind an_behind cd_behind ct_behind), sl_behind⟩)
    (c_behind : PySem.W.codeIn K cd_behind "behind" = true)
    (k_behind : PySem.W.keepIn K (.ref f_behind) = true)
    (a_verdict_of : PySem.W.nsIn K mainGlobals "verdict_of" = some (some (.ref f_verdict_of)))
    (l_verdict_of : K.lookup f_verdict_of = some ⟨oc_verdict_of, od_verdict_of, .func (PySem.W.fnOf "verdict_of" "verdict_of" (defArgs st_verdict_of) (defBody st_verdict_of) (defScope st_verdict_of) .none kV_verdict_of dc_verdict_of pm_verdict_of an_verdict_of cd_verdict_of ct_verdict_of), sl_verdict_of⟩)
    (c_verdict_of : PySem.W.codeIn K cd_verdict_of "verdict_of" = true)
    (k_verdict_of : PySem.W.keepIn K (.ref f_verdict_of) = true)
    (a_parts_of : PySem.W.nsIn K mainGlobals "parts_of" = some (some (.ref f_parts_of)))
    (l_parts_of : K.lookup f_parts_of = some ⟨oc_parts_of, od_parts_of, .func (PySem.W.fnOf "parts_of" "parts_of" (defArgs st_parts_of) (defBody st_parts_of) (defScope st_parts_of) .none kV_parts_of dc_parts_of pm_parts_of an_parts_of cd_parts_of ct_parts_of), sl_parts_of⟩)
    (c_parts_of : PySem.W.codeIn K cd_parts_of "parts_of" = true)
    (k_parts_of : PySem.W.keepIn K (.ref f_parts_of) = true)
    (a_blamed : PySem.W.nsIn K mainGlobals "blamed" = some (some (.ref f_blamed)))
    (l_blamed : K.lookup f_blamed = some ⟨oc_blamed, od_blamed, .func (PySem.W.fnOf "blamed" "blamed" (defArgs st_blamed) (defBody st_blamed) (defScope st_blamed) .none kV_blamed dc_blamed pm_blamed an_blamed cd_blamed ct_blamed), sl_blamed⟩)
    (c_blamed : PySem.W.codeIn K cd_blamed "blamed" = true)
    (k_blamed : PySem.W.keepIn K (.ref f_blamed) = true)
    (a_law : PySem.W.nsIn K mainGlobals "law" = some (some (.ref f_law)))
    (l_law : K.lookup f_law = some ⟨oc_law, od_law, .func (PySem.W.fnOf "law" "law" (defArgs st_law) (defBody st_law) (defScope st_law) .none kV_law dc_law pm_law an_law cd_law ct_law), sl_law⟩)
    (c_law : PySem.W.codeIn K cd_law "law" = true)
    (k_law : PySem.W.keepIn K (.ref f_law) = true)
    : ∃ (κ : Cs) (fn : Fn), fn.modes = [.bor] ∧ (∀ ns : List Int, ns.length ≤ 63 → fn.run [.lst (ns.map D.int)] = some (.val (.bl true), [])) ∧ ∀ base : Heap, K.In base → base.Ns mainGlobals mg → FnG l.prog w K mg base κ true 17 fa fn := by
  have e := hfa.symm.trans (PySem.W.mg_of X G a_law)
  cases e
  have cl : Cls K C := ⟨pg, hd, po, sa⟩
  have mC := PySem.W.mg_of X G aC
  have blt : ∀ x ∈ bltNames, mg x = none := noneAll_ok (l := bltNames) ⟨PySem.W.mg_none_of X G z_len, PySem.W.mg_none_of X G z_tuple, PySem.W.mg_none_of X G z_list, PySem.W.mg_none_of X G z_all, PySem.W.mg_none_of X G z_any, PySem.W.mg_none_of X G z_str, PySem.W.mg_none_of X G z_repr, PySem.W.mg_none_of X G z_max, PySem.W.mg_none_of X G z_min, PySem.W.mg_none_of X G z_range, PySem.W.mg_none_of X G z_zip, PySem.W.mg_none_of X G z_enumerate, PySem.W.mg_none_of X G z_set, PySem.W.mg_none_of X G z_sorted, PySem.W.mg_none_of X G z_isinstance, PySem.W.mg_none_of X G z_dict, PySem.W.mg_none_of X G z_int, PySem.W.mg_none_of X G z_bool, trivial⟩
  have gl_NONE := gl_str (κ := kS C) (PySem.W.mg_of X G c_NONE)
  have gl_BAR := gl_str (κ := kS C) (PySem.W.mg_of X G c_BAR)
  have gl_ANY := gl_str (κ := kS C) (PySem.W.mg_of X G c_ANY)
  have gl_MOST_VALUE := gl_int (κ := kS C) (PySem.W.mg_of X G c_MOST_VALUE)
  have gl_MOST_FIELDS := gl_int (κ := kS C) (PySem.W.mg_of X G c_MOST_FIELDS)
  have gl_MOST_READS := gl_int (κ := kS C) (PySem.W.mg_of X G c_MOST_READS)
  have gl_HEAD := gl_str (κ := kS C) (PySem.W.mg_of X G c_HEAD)
  have gl_MOST_TESTS := gl_int (κ := kS C) (PySem.W.mg_of X G c_MOST_TESTS)
  have gl_Suite := gl_cls (C := C) mC
  have kd_SIGNS := kget_all (w := w) e_SIGNS f_SIGNS h_SIGNS
  have ic : C8.InsC K C := ⟨cl, i1, i2, i3, i4, kit_self⟩
  have U__law_source := fun_mk (st := st__law_source) l__law_source c__law_source k__law_source
  have G__law_source : ∀ base : Heap, K.In base → base.Ns mainGlobals mg → FnG l.prog w K mg base (kS C) false 2 f__law_source F__law_source := fun base hb hn => g__law_source (Tab.nil (κ := kS C) (nm := nm__law_source) (L := 0) (glOf_ok (l := []) trivial) blt (fl_none rfl) (kt_none rfl) (ic_none rfl)) U__law_source
  have U__law_cell := fun_mk (st := st__law_cell) l__law_cell c__law_cell k__law_cell
  have G__law_cell : ∀ base : Heap, K.In base → base.Ns mainGlobals mg → FnG l.prog w K mg base (kS C) false 2 f__law_cell F__law_cell := fun base hb hn => g__law_cell (Tab.nil (κ := kS C) (nm := nm__law_cell) (L := 0) (glOf_ok (l := []) trivial) blt (fl_none rfl) (kt_none rfl) (ic_none rfl)) U__law_cell
  have U__law_draw := fun_mk (st := st__law_draw) l__law_draw c__law_draw k__law_draw
  have G__law_draw : ∀ base : Heap, K.In base → base.Ns mainGlobals mg → FnG l.prog w K mg base (kS C) false 2 f__law_draw F__law_draw := fun base hb hn => g__law_draw (Tab.nil (κ := kS C) (nm := nm__law_draw) (L := 0) (glOf_ok (l := []) trivial) blt (fl_none rfl) (kt_none rfl) (ic_none rfl)) U__law_draw
  have U__law_choose := fun_mk (st := st__law_choose) l__law_choose c__law_choose k__law_choose
  have G__law_choose : ∀ base : Heap, K.In base → base.Ns mainGlobals mg → FnG l.prog w K mg base (kS C) false 4 f__law_choose F__law_choose := fun base hb hn => g__law_choose ((Tab.nil (κ := kS C) (nm := nm__law_choose) (L := 2) (glOf_ok (l := []) trivial) blt (fl_none rfl) (kt_none rfl) (ic_none rfl)).put (fn := F__law_draw) ⟨f__law_draw, PySem.W.mg_of X G a__law_draw, k__law_draw, ((G__law_draw base hb hn).mono (by decide))⟩) U__law_choose
  have U__law_test := fun_mk (st := st__law_test) l__law_test c__law_test k__law_test
  have G__law_test : ∀ base : Heap, K.In base → base.Ns mainGlobals mg → FnG l.prog w K mg base (kS C) false 6 f__law_test F__law_test := fun base hb hn => g__law_test (((Tab.nil (κ := kS C) (nm := nm__law_test) (L := 4) (glOf_ok (l := []) trivial) blt (fl_none rfl) (kt_none rfl) (ic_none rfl)).put (fn := F__law_draw) ⟨f__law_draw, PySem.W.mg_of X G a__law_draw, k__law_draw, ((G__law_draw base hb hn).mono (by decide))⟩).put (fn := F__law_choose) ⟨f__law_choose, PySem.W.mg_of X G a__law_choose, k__law_choose, ((G__law_choose base hb hn).mono (by decide))⟩) U__law_test
  have U__law_suite := fun_mk (st := st__law_suite) l__law_suite c__law_suite k__law_suite
  have G__law_suite : ∀ base : Heap, K.In base → base.Ns mainGlobals mg → FnG l.prog w K mg base (kS C) false 8 f__law_suite F__law_suite := fun base hb hn => g__law_suite ((((Tab.nil (κ := kS C) (nm := nm__law_suite) (L := 6) (glOf_ok (l := []) trivial) blt (fl_none rfl) (kt_none rfl) (ic_none rfl)).put (fn := F__law_choose) ⟨f__law_choose, PySem.W.mg_of X G a__law_choose, k__law_choose, ((G__law_choose base hb hn).mono (by decide))⟩).put (fn := F__law_draw) ⟨f__law_draw, PySem.W.mg_of X G a__law_draw, k__law_draw, ((G__law_draw base hb hn).mono (by decide))⟩).put (fn := F__law_test) ⟨f__law_test, PySem.W.mg_of X G a__law_test, k__law_test, ((G__law_test base hb hn).mono (by decide))⟩) U__law_suite
  have U_numbers_in := fun_mk (st := st_numbers_in) l_numbers_in c_numbers_in k_numbers_in
  have G_numbers_in : ∀ base : Heap, K.In base → base.Ns mainGlobals mg → FnG l.prog w K mg base (kS C) false 2 f_numbers_in F_numbers_in := fun base hb hn => g_numbers_in (Tab.nil (κ := kS C) (nm := nm_numbers_in) (L := 0) (glOf_ok (l := []) trivial) blt (fl_none rfl) (kt_one rfl (PySem.W.mg_of X G d_SIGNS) l_SIGNS kd_SIGNS) (ic_none rfl)) U_numbers_in
  have U_words_in := fun_mk (st := st_words_in) l_words_in c_words_in k_words_in
  have G_words_in : ∀ base : Heap, K.In base → base.Ns mainGlobals mg → FnG l.prog w K mg base (kS C) false 2 f_words_in F_words_in := fun base hb hn => g_words_in (Tab.nil (κ := kS C) (nm := nm_words_in) (L := 0) (glOf_ok (l := [("NONE", (.str "-"))]) ⟨gl_NONE, trivial⟩) blt (fl_none rfl) (kt_none rfl) (ic_none rfl)) U_words_in
  have U_test_in := fun_mk (st := st_test_in) l_test_in c_test_in k_test_in
  have G_test_in : ∀ base : Heap, K.In base → base.Ns mainGlobals mg → FnG l.prog w K mg base (kS C) false 4 f_test_in F_test_in := fun base hb hn => g_test_in (((Tab.nil (κ := kS C) (nm := nm_test_in) (L := 2) (glOf_ok (l := [("BAR", (.str " | ")), ("ANY", (.str "any"))]) ⟨gl_BAR, gl_ANY, trivial⟩) blt (fl_none rfl) (kt_none rfl) (ic_none rfl)).put (fn := F_words_in) ⟨f_words_in, PySem.W.mg_of X G a_words_in, k_words_in, ((G_words_in base hb hn).mono (by decide))⟩).put (fn := F_numbers_in) ⟨f_numbers_in, PySem.W.mg_of X G a_numbers_in, k_numbers_in, ((G_numbers_in base hb hn).mono (by decide))⟩) U_test_in
  have U_is_between := fun_mk (st := st_is_between) l_is_between c_is_between k_is_between
  have G_is_between : ∀ base : Heap, K.In base → base.Ns mainGlobals mg → FnG l.prog w K mg base (kS C) false 2 f_is_between F_is_between := fun base hb hn => g_is_between (Tab.nil (κ := kS C) (nm := nm_is_between) (L := 0) (glOf_ok (l := []) trivial) blt (fl_none rfl) (kt_none rfl) (ic_none rfl)) U_is_between
  have U_are_between := fun_mk (st := st_are_between) l_are_between c_are_between k_are_between
  have G_are_between : ∀ base : Heap, K.In base → base.Ns mainGlobals mg → FnG l.prog w K mg base (kS C) false 4 f_are_between F_are_between := fun base hb hn => g_are_between ((Tab.nil (κ := kS C) (nm := nm_are_between) (L := 2) (glOf_ok (l := []) trivial) blt (fl_none rfl) (kt_none rfl) (ic_none rfl)).put (fn := F_is_between) ⟨f_is_between, PySem.W.mg_of X G a_is_between, k_is_between, ((G_is_between base hb hn).mono (by decide))⟩) U_are_between
  have U_is_record := fun_mk (st := st_is_record) l_is_record c_is_record k_is_record
  have G_is_record : ∀ base : Heap, K.In base → base.Ns mainGlobals mg → FnG l.prog w K mg base (kS C) false 6 f_is_record F_is_record := fun base hb hn => g_is_record ((Tab.nil (κ := kS C) (nm := nm_is_record) (L := 4) (glOf_ok (l := [("MOST_VALUE", (.int 2)), ("MOST_FIELDS", (.int 5))]) ⟨gl_MOST_VALUE, gl_MOST_FIELDS, trivial⟩) blt (fl_none rfl) (kt_none rfl) (ic_none rfl)).put (fn := F_are_between) ⟨f_are_between, PySem.W.mg_of X G a_are_between, k_are_between, ((G_are_between base hb hn).mono (by decide))⟩) U_is_record
  have U_ascends := fun_mk (st := st_ascends) l_ascends c_ascends k_ascends
  have G_ascends : ∀ base : Heap, K.In base → base.Ns mainGlobals mg → FnG l.prog w K mg base (kS C) false 2 f_ascends F_ascends := fun base hb hn => g_ascends (Tab.nil (κ := kS C) (nm := nm_ascends) (L := 0) (glOf_ok (l := []) trivial) blt (fl_none rfl) (kt_none rfl) (ic_none rfl)) U_ascends
  have U_are_writes := fun_mk (st := st_are_writes) l_are_writes c_are_writes k_are_writes
  have G_are_writes : ∀ base : Heap, K.In base → base.Ns mainGlobals mg → FnG l.prog w K mg base (kS C) false 6 f_are_writes F_are_writes := fun base hb hn => g_are_writes (((Tab.nil (κ := kS C) (nm := nm_are_writes) (L := 4) (glOf_ok (l := [("MOST_FIELDS", (.int 5)), ("MOST_VALUE", (.int 2))]) ⟨gl_MOST_FIELDS, gl_MOST_VALUE, trivial⟩) blt (fl_none rfl) (kt_none rfl) (ic_none rfl)).put (fn := F_are_between) ⟨f_are_between, PySem.W.mg_of X G a_are_between, k_are_between, ((G_are_between base hb hn).mono (by decide))⟩).put (fn := F_ascends) ⟨f_ascends, PySem.W.mg_of X G a_ascends, k_ascends, ((G_ascends base hb hn).mono (by decide))⟩) U_are_writes
  have U_is_test := fun_mk (st := st_is_test) l_is_test c_is_test k_is_test
  have G_is_test : ∀ base : Heap, K.In base → base.Ns mainGlobals mg → FnG l.prog w K mg base (kS C) false 8 f_is_test F_is_test := fun base hb hn => g_is_test ((((Tab.nil (κ := kS C) (nm := nm_is_test) (L := 6) (glOf_ok (l := [("MOST_READS", (.int 3)), ("MOST_VALUE", (.int 2))]) ⟨gl_MOST_READS, gl_MOST_VALUE, trivial⟩) blt (fl_none rfl) (kt_none rfl) (ic_none rfl)).put (fn := F_are_writes) ⟨f_are_writes, PySem.W.mg_of X G a_are_writes, k_are_writes, ((G_are_writes base hb hn).mono (by decide))⟩).put (fn := F_are_between) ⟨f_are_between, PySem.W.mg_of X G a_are_between, k_are_between, ((G_are_between base hb hn).mono (by decide))⟩).put (fn := F_ascends) ⟨f_ascends, PySem.W.mg_of X G a_ascends, k_ascends, ((G_ascends base hb hn).mono (by decide))⟩) U_is_test
  have U_joined := fun_mk (st := st_joined) l_joined c_joined k_joined
  have G_joined : ∀ base : Heap, K.In base → base.Ns mainGlobals mg → FnG l.prog w K mg base (kS C) false 2 f_joined F_joined := fun base hb hn => g_joined (Tab.nil (κ := kS C) (nm := nm_joined) (L := 0) (glOf_ok (l := [("NONE", (.str "-"))]) ⟨gl_NONE, trivial⟩) blt (fl_none rfl) (kt_none rfl) (ic_none rfl)) U_joined
  have U_line_of := fun_mk (st := st_line_of) l_line_of c_line_of k_line_of
  have G_line_of : ∀ base : Heap, K.In base → base.Ns mainGlobals mg → FnG l.prog w K mg base (kS C) false 4 f_line_of F_line_of := fun base hb hn => g_line_of ((Tab.nil (κ := kS C) (nm := nm_line_of) (L := 2) (glOf_ok (l := [("BAR", (.str " | ")), ("ANY", (.str "any"))]) ⟨gl_BAR, gl_ANY, trivial⟩) blt (fl_none rfl) (kt_none rfl) (ic_none rfl)).put (fn := F_joined) ⟨f_joined, PySem.W.mg_of X G a_joined, k_joined, ((G_joined base hb hn).mono (by decide))⟩) U_line_of
  have U_text_of := fun_mk (st := st_text_of) l_text_of c_text_of k_text_of
  have G_text_of : ∀ base : Heap, K.In base → base.Ns mainGlobals mg → FnG l.prog w K mg base (kS C) false 6 f_text_of F_text_of := fun base hb hn => g_text_of (((Tab.nil (κ := kS C) (nm := nm_text_of) (L := 4) (glOf_ok (l := [("HEAD", (.str "start "))]) ⟨gl_HEAD, trivial⟩) blt (fl_none rfl) (kt_none rfl) (ic_none rfl)).put (fn := F_joined) ⟨f_joined, PySem.W.mg_of X G a_joined, k_joined, ((G_joined base hb hn).mono (by decide))⟩).put (fn := F_line_of) ⟨f_line_of, PySem.W.mg_of X G a_line_of, k_line_of, ((G_line_of base hb hn).mono (by decide))⟩) U_text_of
  have U_Suite_init := fun_mk (st := st_Suite_init) l_Suite_init c_Suite_init k_Suite_init
  have G_Suite_mk : ∀ (n : Nat) (base : Heap), K.In base → base.Ns mainGlobals mg → FnG l.prog w K mg base (kS C) false 11 C (mkFn F_Suite_mk "Suite" n) := fun n base hb hn => g_Suite_init (((Tab.nil (κ := kS C) (nm := nm_Suite_init) (L := 8) (glOf_ok (l := [("MOST_TESTS", (.int 6))]) ⟨gl_MOST_TESTS, trivial⟩) blt (fl_none rfl) (kt_none rfl) (ic_none rfl)).put (fn := F_is_record) ⟨f_is_record, PySem.W.mg_of X G a_is_record, k_is_record, ((G_is_record base hb hn).mono (by decide))⟩).put (fn := F_is_test) ⟨f_is_test, PySem.W.mg_of X G a_is_test, k_is_test, ((G_is_test base hb hn).mono (by decide))⟩) U_Suite_init ⟨mk, p1_Suite_init, p2_Suite_init, kC⟩ cl nA nB rfl rfl
  have U_Suite_read := fun_mk (st := st_Suite_read) l_Suite_read c_Suite_read k_Suite_read
  have G_Suite_read : ∀ base : Heap, K.In base → base.Ns mainGlobals mg → FnG l.prog w K mg base (kS C) false 13 f_Suite_read F_Suite_read := fun base hb hn => g_Suite_read (((((((Tab.nil (κ := kS C) (nm := nm_Suite_read) (L := 11) (glOf_ok (l := [("HEAD", (.str "start ")), ("MOST_TESTS", (.int 6))]) ⟨gl_HEAD, gl_MOST_TESTS, trivial⟩) blt (fl_none rfl) (kt_none rfl) (ic_none rfl)).put (fn := F_numbers_in) ⟨f_numbers_in, PySem.W.mg_of X G a_numbers_in, k_numbers_in, ((G_numbers_in base hb hn).mono (by decide))⟩).put (fn := F_test_in) ⟨f_test_in, PySem.W.mg_of X G a_test_in, k_test_in, ((G_test_in base hb hn).mono (by decide))⟩).put (fn := F_is_record) ⟨f_is_record, PySem.W.mg_of X G a_is_record, k_is_record, ((G_is_record base hb hn).mono (by decide))⟩).put (fn := F_is_test) ⟨f_is_test, PySem.W.mg_of X G a_is_test, k_is_test, ((G_is_test base hb hn).mono (by decide))⟩).put (fn := F_text_of) ⟨f_text_of, PySem.W.mg_of X G a_text_of, k_text_of, ((G_text_of base hb hn).mono (by decide))⟩).put (fn := F_Suite_mk) ⟨C, rfl, kC, fun _ _ _ h => mk_recv h, (fun n => ((G_Suite_mk n base hb hn).mono (by decide)))⟩) U_Suite_read
  have U__law_text := fun_mk (st := st__law_text) l__law_text c__law_text k__law_text
  have G__law_text : ∀ base : Heap, K.In base → base.Ns mainGlobals mg → FnG l.prog w K mg base (kS C) false 2 f__law_text F__law_text := fun base hb hn => g__law_text (Tab.nil (κ := kS C) (nm := nm__law_text) (L := 0) (glOf_ok (l := []) trivial) blt (fl_none rfl) (kt_none rfl) (ic_none rfl)) U__law_text
  have U__law_made := fun_mk (st := st__law_made) l__law_made c__law_made k__law_made
  have G__law_made : ∀ base : Heap, K.In base → base.Ns mainGlobals mg → FnG l.prog w K mg base (kS C) false 15 f__law_made F__law_made := fun base hb hn => g__law_made (((Tab.nil (κ := kS C) (nm := nm__law_made) (L := 13) (glOf_ok (l := [("Suite", (.cls "Suite"))]) ⟨gl_Suite, trivial⟩) blt (fl_none rfl) (kt_none rfl) (ic_none rfl)).put (fn := F_Suite_read) ⟨C, .type "type", p_Suite_read, f_Suite_read, rfl, ⟨p0_Suite_read, p1_Suite_read⟩, ⟨p2_Suite_read, ⟨_, p3_Suite_read⟩, p4_Suite_read⟩, clsF_of (by decide) (fun _ _ h => runFn_len h), ((G_Suite_read base hb hn).mono (by decide))⟩).put (fn := F__law_text) ⟨f__law_text, PySem.W.mg_of X G a__law_text, k__law_text, ((G__law_text base hb hn).mono (by decide))⟩) U__law_made
  have U__law_rows := fun_mk (st := st__law_rows) l__law_rows c__law_rows k__law_rows
  have G__law_rows : ∀ base : Heap, K.In base → base.Ns mainGlobals mg → FnG l.prog w K mg base (kS C) false 2 f__law_rows F__law_rows := fun base hb hn => g__law_rows (Tab.nil (κ := kS C) (nm := nm__law_rows) (L := 0) (glOf_ok (l := []) trivial) blt (fl_none rfl) (kt_none rfl) (ic_none rfl)) U__law_rows
  have U__law_others := fun_mk (st := st__law_others) l__law_others c__law_others k__law_others
  have G__law_others : ∀ base : Heap, K.In base → base.Ns mainGlobals mg → FnG l.prog w K mg base (kS C) false 2 f__law_others F__law_others := fun base hb hn => g__law_others (Tab.nil (κ := kS C) (nm := nm__law_others) (L := 0) (glOf_ok (l := []) trivial) blt (fl_none rfl) (kt_none rfl) (ic_none rfl)) U__law_others
  have U__law_passes := fun_mk (st := st__law_passes) l__law_passes c__law_passes k__law_passes
  have G__law_passes : ∀ base : Heap, K.In base → base.Ns mainGlobals mg → FnG l.prog w K mg base (kS C) false 2 f__law_passes F__law_passes := fun base hb hn => g__law_passes (Tab.nil (κ := kS C) (nm := nm__law_passes) (L := 0) (glOf_ok (l := []) trivial) blt (fl_none rfl) (kt_none rfl) (ic_none rfl)) U__law_passes
  have U__law_behind := fun_mk (st := st__law_behind) l__law_behind c__law_behind k__law_behind
  have G__law_behind : ∀ base : Heap, K.In base → base.Ns mainGlobals mg → FnG l.prog w K mg base (kS C) false 2 f__law_behind F__law_behind := fun base hb hn => g__law_behind (Tab.nil (κ := kS C) (nm := nm__law_behind) (L := 0) (glOf_ok (l := []) trivial) blt (fl_none rfl) (kt_none rfl) (ic_none rfl)) U__law_behind
  have U__law_verdict := fun_mk (st := st__law_verdict) l__law_verdict c__law_verdict k__law_verdict
  have G__law_verdict : ∀ base : Heap, K.In base → base.Ns mainGlobals mg → FnG l.prog w K mg base (kS C) false 4 f__law_verdict F__law_verdict := fun base hb hn => g__law_verdict (((Tab.nil (κ := kS C) (nm := nm__law_verdict) (L := 2) (glOf_ok (l := []) trivial) blt (fl_none rfl) (kt_none rfl) (ic_none rfl)).put (fn := F__law_passes) ⟨f__law_passes, PySem.W.mg_of X G a__law_passes, k__law_passes, ((G__law_passes base hb hn).mono (by decide))⟩).put (fn := F__law_behind) ⟨f__law_behind, PySem.W.mg_of X G a__law_behind, k__law_behind, ((G__law_behind base hb hn).mono (by decide))⟩) U__law_verdict
  have U__law_blamed := fun_mk (st := st__law_blamed) l__law_blamed c__law_blamed k__law_blamed
  have G__law_blamed : ∀ base : Heap, K.In base → base.Ns mainGlobals mg → FnG l.prog w K mg base (kS C) false 6 f__law_blamed F__law_blamed := fun base hb hn => g__law_blamed ((Tab.nil (κ := kS C) (nm := nm__law_blamed) (L := 4) (glOf_ok (l := []) trivial) blt (fl_none rfl) (kt_none rfl) (ic_none rfl)).put (fn := F__law_verdict) ⟨f__law_verdict, PySem.W.mg_of X G a__law_verdict, k__law_verdict, ((G__law_verdict base hb hn).mono (by decide))⟩) U__law_blamed
  have U__law_is_equal := fun_mk (st := st__law_is_equal) l__law_is_equal c__law_is_equal k__law_is_equal
  have G__law_is_equal : ∀ base : Heap, K.In base → base.Ns mainGlobals mg → FnG l.prog w K mg base (kS C) true 2 f__law_is_equal F__law_is_equal := fun base hb hn => g__law_is_equal (Tab.nil (κ := kS C) (nm := nm__law_is_equal) (L := 0) (glOf_ok (l := []) trivial) blt (fl_none rfl) (kt_none rfl) (ic_none rfl)) U__law_is_equal
  have U_need_suite := fun_mk (st := st_need_suite) l_need_suite c_need_suite k_need_suite
  have G_need_suite : ∀ base : Heap, K.In base → base.Ns mainGlobals mg → FnG l.prog w K mg base (kS C) false 2 f_need_suite F_need_suite := fun base hb hn => g_need_suite (Tab.nil (κ := kS C) (nm := nm_need_suite) (L := 0) (glOf_ok (l := []) trivial) blt (fl_none rfl) (kt_none rfl) (ic_suite rfl mC ic)) U_need_suite
  have U_Suite_len := fun_mk (st := st_Suite_len) l_Suite_len c_Suite_len k_Suite_len
  have G_Suite_len : ∀ base : Heap, K.In base → base.Ns mainGlobals mg → FnG l.prog w K mg base (kS C) false 2 f_Suite_len F_Suite_len := fun base hb hn => g_Suite_len (Tab.nil (κ := kS C) (nm := nm_Suite_len) (L := 0) (glOf_ok (l := []) trivial) blt (fl_suite rfl cl nA nB) (kt_none rfl) (ic_none rfl)) U_Suite_len
  have U_need_number := fun_mk (st := st_need_number) l_need_number c_need_number k_need_number
  have G_need_number : ∀ base : Heap, K.In base → base.Ns mainGlobals mg → FnG l.prog w K mg base (kS C) false 4 f_need_number F_need_number := fun base hb hn => g_need_number ((((Tab.nil (κ := kS C) (nm := nm_need_number) (L := 2) (glOf_ok (l := []) trivial) blt (fl_none rfl) (kt_none rfl) (ic_none rfl)).put (fn := F_need_suite) ⟨f_need_suite, PySem.W.mg_of X G a_need_suite, k_need_suite, ((G_need_suite base hb hn).mono (by decide))⟩).put (fn := F_is_between) ⟨f_is_between, PySem.W.mg_of X G a_is_between, k_is_between, ((G_is_between base hb hn).mono (by decide))⟩).put (fn := F_Suite_len) ⟨C, f_Suite_len, rfl, p1_Suite_len, p2_Suite_len, methF_of (by decide) (fun _ _ h => runFn_len (lenRun_of h)), fun d r h => lenRun_int (insRun_of h), ((G_Suite_len base hb hn).mono (by decide))⟩) U_need_number
  have U_are_numbers := fun_mk (st := st_are_numbers) l_are_numbers c_are_numbers k_are_numbers
  have G_are_numbers : ∀ base : Heap, K.In base → base.Ns mainGlobals mg → FnG l.prog w K mg base (kS C) false 4 f_are_numbers F_are_numbers := fun base hb hn => g_are_numbers ((Tab.nil (κ := kS C) (nm := nm_are_numbers) (L := 2) (glOf_ok (l := []) trivial) blt (fl_none rfl) (kt_none rfl) (ic_none rfl)).put (fn := F_is_between) ⟨f_is_between, PySem.W.mg_of X G a_is_between, k_is_between, ((G_is_between base hb hn).mono (by decide))⟩) U_are_numbers
  have U_is_row_of_others := fun_mk (st := st_is_row_of_others) l_is_row_of_others c_is_row_of_others k_is_row_of_others
  have G_is_row_of_others : ∀ base : Heap, K.In base → base.Ns mainGlobals mg → FnG l.prog w K mg base (kS C) false 6 f_is_row_of_others F_is_row_of_others := fun base hb hn => g_is_row_of_others (((Tab.nil (κ := kS C) (nm := nm_is_row_of_others) (L := 4) (glOf_ok (l := []) trivial) blt (fl_none rfl) (kt_none rfl) (ic_none rfl)).put (fn := F_are_numbers) ⟨f_are_numbers, PySem.W.mg_of X G a_are_numbers, k_are_numbers, ((G_are_numbers base hb hn).mono (by decide))⟩).put (fn := F_Suite_len) ⟨C, f_Suite_len, rfl, p1_Suite_len, p2_Suite_len, methF_of (by decide) (fun _ _ h => runFn_len (lenRun_of h)), fun d r h => lenRun_int (insRun_of h), ((G_Suite_len base hb hn).mono (by decide))⟩) U_is_row_of_others
  have U_need_others := fun_mk (st := st_need_others) l_need_others c_need_others k_need_others
  have G_need_others : ∀ base : Heap, K.In base → base.Ns mainGlobals mg → FnG l.prog w K mg base (kS C) false 8 f_need_others F_need_others := fun base hb hn => g_need_others (((Tab.nil (κ := kS C) (nm := nm_need_others) (L := 6) (glOf_ok (l := []) trivial) blt (fl_none rfl) (kt_none rfl) (ic_none rfl)).put (fn := F_need_number) ⟨f_need_number, PySem.W.mg_of X G a_need_number, k_need_number, ((G_need_number base hb hn).mono (by decide))⟩).put (fn := F_is_row_of_others) ⟨f_is_row_of_others, PySem.W.mg_of X G a_is_row_of_others, k_is_row_of_others, ((G_is_row_of_others base hb hn).mono (by decide))⟩) U_need_others
  have U_values_at := fun_mk (st := st_values_at) l_values_at c_values_at k_values_at
  have G_values_at : ∀ base : Heap, K.In base → base.Ns mainGlobals mg → FnG l.prog w K mg base (kS C) false 2 f_values_at F_values_at := fun base hb hn => g_values_at (Tab.nil (κ := kS C) (nm := nm_values_at) (L := 0) (glOf_ok (l := []) trivial) blt (fl_none rfl) (kt_none rfl) (ic_none rfl)) U_values_at
  have U_passes_at := fun_mk (st := st_passes_at) l_passes_at c_passes_at k_passes_at
  have G_passes_at : ∀ base : Heap, K.In base → base.Ns mainGlobals mg → FnG l.prog w K mg base (kS C) false 4 f_passes_at F_passes_at := fun base hb hn => g_passes_at ((Tab.nil (κ := kS C) (nm := nm_passes_at) (L := 2) (glOf_ok (l := []) trivial) blt (fl_none rfl) (kt_none rfl) (ic_none rfl)).put (fn := F_values_at) ⟨f_values_at, PySem.W.mg_of X G a_values_at, k_values_at, ((G_values_at base hb hn).mono (by decide))⟩) U_passes_at
  have U_Suite_start := fun_mk (st := st_Suite_start) l_Suite_start c_Suite_start k_Suite_start
  have G_Suite_start : ∀ base : Heap, K.In base → base.Ns mainGlobals mg → FnG l.prog w K mg base (kS C) false 2 f_Suite_start F_Suite_start := fun base hb hn => g_Suite_start (Tab.nil (κ := kS C) (nm := nm_Suite_start) (L := 0) (glOf_ok (l := []) trivial) blt (fl_suite rfl cl nA nB) (kt_none rfl) (ic_none rfl)) U_Suite_start
  have U_written := fun_mk (st := st_written) l_written c_written k_written
  have G_written : ∀ base : Heap, K.In base → base.Ns mainGlobals mg → FnG l.prog w K mg base (kS C) false 2 f_written F_written := fun base hb hn => g_written (Tab.nil (κ := kS C) (nm := nm_written) (L := 0) (glOf_ok (l := []) trivial) blt (fl_none rfl) (kt_none rfl) (ic_none rfl)) U_written
  have U_record_after := fun_mk (st := st_record_after) l_record_after c_record_after k_record_after
  have G_record_after : ∀ base : Heap, K.In base → base.Ns mainGlobals mg → FnG l.prog w K mg base (kS C) false 4 f_record_after F_record_after := fun base hb hn => g_record_after ((Tab.nil (κ := kS C) (nm := nm_record_after) (L := 2) (glOf_ok (l := []) trivial) blt (fl_none rfl) (kt_none rfl) (ic_none rfl)).put (fn := F_written) ⟨f_written, PySem.W.mg_of X G a_written, k_written, ((G_written base hb hn).mono (by decide))⟩) U_record_after
  have U_Suite_getitem := fun_mk (st := st_Suite_getitem) l_Suite_getitem c_Suite_getitem k_Suite_getitem
  have G_Suite_getitem : ∀ base : Heap, K.In base → base.Ns mainGlobals mg → FnG l.prog w K mg base (kS C) false 4 f_Suite_getitem F_Suite_getitem := fun base hb hn => g_Suite_getitem ((Tab.nil (κ := kS C) (nm := nm_Suite_getitem) (L := 2) (glOf_ok (l := []) trivial) blt (fl_suite rfl cl nA nB) (kt_none rfl) (ic_none rfl)).put (fn := F_is_between) ⟨f_is_between, PySem.W.mg_of X G a_is_between, k_is_between, ((G_is_between base hb hn).mono (by decide))⟩) U_Suite_getitem
  have U_behind := fun_mk (st := st_behind) l_behind c_behind k_behind
  have G_behind : ∀ base : Heap, K.In base → base.Ns mainGlobals mg → FnG l.prog w K mg base (kS C) false 6 f_behind F_behind := fun base hb hn => g_behind ((((Tab.nil (κ := kS C) (nm := nm_behind) (L := 4) (glOf_ok (l := []) trivial) blt (fl_none rfl) (kt_none rfl) (ic_none rfl)).put (fn := F_Suite_start) ⟨C, p_Suite_start, f_Suite_start, rfl, cl, ⟨p1_Suite_start, p2_Suite_start, p3_Suite_start, ⟨_, p4_Suite_start⟩⟩, methF_of (by decide) (fun _ _ h => runFn_len h), rfl, ((G_Suite_start base hb hn).mono (by decide))⟩).put (fn := F_record_after) ⟨f_record_after, PySem.W.mg_of X G a_record_after, k_record_after, ((G_record_after base hb hn).mono (by decide))⟩).put (fn := F_Suite_getitem) ⟨C, f_Suite_getitem, rfl, p1_Suite_getitem, p3_Suite_getitem, p2_Suite_getitem, methF_of (by decide) (fun _ _ h => runFn_len h), ((G_Suite_getitem base hb hn).mono (by decide))⟩) U_behind
  have U_verdict_of := fun_mk (st := st_verdict_of) l_verdict_of c_verdict_of k_verdict_of
  have G_verdict_of : ∀ base : Heap, K.In base → base.Ns mainGlobals mg → FnG l.prog w K mg base (kS C) false 8 f_verdict_of F_verdict_of := fun base hb hn => g_verdict_of ((((Tab.nil (κ := kS C) (nm := nm_verdict_of) (L := 6) (glOf_ok (l := []) trivial) blt (fl_none rfl) (kt_none rfl) (ic_none rfl)).put (fn := F_passes_at) ⟨f_passes_at, PySem.W.mg_of X G a_passes_at, k_passes_at, ((G_passes_at base hb hn).mono (by decide))⟩).put (fn := F_behind) ⟨f_behind, PySem.W.mg_of X G a_behind, k_behind, ((G_behind base hb hn).mono (by decide))⟩).put (fn := F_Suite_getitem) ⟨C, f_Suite_getitem, rfl, p1_Suite_getitem, p3_Suite_getitem, p2_Suite_getitem, methF_of (by decide) (fun _ _ h => runFn_len h), ((G_Suite_getitem base hb hn).mono (by decide))⟩) U_verdict_of
  have U_parts_of := fun_mk (st := st_parts_of) l_parts_of c_parts_of k_parts_of
  have G_parts_of : ∀ base : Heap, K.In base → base.Ns mainGlobals mg → FnG l.prog w K mg base (kS C) false 2 f_parts_of F_parts_of := fun base hb hn => g_parts_of (Tab.nil (κ := kS C) (nm := nm_parts_of) (L := 0) (glOf_ok (l := []) trivial) blt (fl_none rfl) (kt_none rfl) (ic_none rfl)) U_parts_of
  have U_blamed := fun_mk (st := st_blamed) l_blamed c_blamed k_blamed
  have G_blamed : ∀ base : Heap, K.In base → base.Ns mainGlobals mg → FnG l.prog w K mg base (kS C) false 10 f_blamed F_blamed := fun base hb hn => g_blamed ((((Tab.nil (κ := kS C) (nm := nm_blamed) (L := 8) (glOf_ok (l := []) trivial) blt (fl_none rfl) (kt_none rfl) (ic_none rfl)).put (fn := F_need_others) ⟨f_need_others, PySem.W.mg_of X G a_need_others, k_need_others, ((G_need_others base hb hn).mono (by decide))⟩).put (fn := F_verdict_of) ⟨f_verdict_of, PySem.W.mg_of X G a_verdict_of, k_verdict_of, ((G_verdict_of base hb hn).mono (by decide))⟩).put (fn := F_parts_of) ⟨f_parts_of, PySem.W.mg_of X G a_parts_of, k_parts_of, ((G_parts_of base hb hn).mono (by decide))⟩) U_blamed
  have U_law := fun_mk (st := st_law) l_law c_law k_law
  have G_law : ∀ base : Heap, K.In base → base.Ns mainGlobals mg → FnG l.prog w K mg base (kS C) true 17 f_law F_law := fun base hb hn => g_law (((((((((((Tab.nil (κ := kS C) (nm := nm_law) (L := 15) (glOf_ok (l := []) trivial) blt (fl_none rfl) (kt_none rfl) (ic_none rfl)).put (fn := F__law_source) ⟨f__law_source, PySem.W.mg_of X G a__law_source, k__law_source, (((G__law_source base hb hn).mono (by decide)).any)⟩).put (fn := F__law_cell) ⟨f__law_cell, PySem.W.mg_of X G a__law_cell, k__law_cell, (((G__law_cell base hb hn).mono (by decide)).any)⟩).put (fn := F__law_suite) ⟨f__law_suite, PySem.W.mg_of X G a__law_suite, k__law_suite, (((G__law_suite base hb hn).mono (by decide)).any)⟩).put (fn := F__law_made) ⟨f__law_made, PySem.W.mg_of X G a__law_made, k__law_made, (((G__law_made base hb hn).mono (by decide)).any)⟩).put (fn := F__law_rows) ⟨f__law_rows, PySem.W.mg_of X G a__law_rows, k__law_rows, (((G__law_rows base hb hn).mono (by decide)).any)⟩).put (fn := F__law_others) ⟨f__law_others, PySem.W.mg_of X G a__law_others, k__law_others, (((G__law_others base hb hn).mono (by decide)).any)⟩).put (fn := F__law_draw) ⟨f__law_draw, PySem.W.mg_of X G a__law_draw, k__law_draw, (((G__law_draw base hb hn).mono (by decide)).any)⟩).put (fn := F__law_blamed) ⟨f__law_blamed, PySem.W.mg_of X G a__law_blamed, k__law_blamed, (((G__law_blamed base hb hn).mono (by decide)).any)⟩).put (fn := F__law_is_equal) ⟨f__law_is_equal, PySem.W.mg_of X G a__law_is_equal, k__law_is_equal, ((G__law_is_equal base hb hn).mono (by decide))⟩).put (fn := F_blamed) ⟨f_blamed, PySem.W.mg_of X G a_blamed, k_blamed, (((G_blamed base hb hn).mono (by decide)).any)⟩) U_law
  exact ⟨kS C, F_law, rfl, hrun, fun base hb hn => (G_law base hb hn)⟩
end DT

end
section
/-! Plain law: the evaluator's equations, for simp. -/
namespace DT
open PySem L2
section
variable (Γ : Nat → Option Fn) (gl : Str → Option D)
theorem evE_nil  (ρ : Ro) : evE Γ gl (.nil : E) ρ = (some (.tmp (.val (.bl true)), ρ)) := by first | rfl | (unfold evE; rfl)
theorem evE_var (i : Nat) (ρ : Ro) : evE Γ gl (.var i : E) ρ = (bnd1 ((ρ[i]?).join) fun _ => some (.slot i, ρ)) := by first | rfl | (unfold evE; rfl)
theorem evE_cst (d : D) (ρ : Ro) : evE Γ gl (.cst d : E) ρ = (some (.tmp (.val d), ρ)) := by first | rfl | (unfold evE; rfl)
theorem evE_glob (x : Str) (ρ : Ro) : evE Γ gl (.glob x : E) ρ = (bnd1 (gl x) fun d => some (.tmp (.val d), ρ)) := by first | rfl | (unfold evE; rfl)
theorem evE_tup (es : List E) (ρ : Ro) : evE Γ gl (.tup es : E) ρ = (bnd2 (evEs Γ gl es ρ) fun ps ρ1 => bnd2 (toVals ρ1 ps) fun ds ρ2 => req (decide (ds.length ≤ big)) (some (.tmp (.val (.tup ds)), ρ2))) := by first | rfl | (unfold evE; rfl)
theorem evE_lst (es : List E) (ρ : Ro) : evE Γ gl (.lst es : E) ρ = (bnd2 (evEs Γ gl es ρ) fun ps ρ1 => bnd2 (toVals ρ1 ps) fun ds ρ2 => req (decide (ds.length ≤ big)) (some (.tmp (.own ds), ρ2))) := by first | rfl | (unfold evE; rfl)
theorem evE_bin (o : Op2) (a : E) (b : E) (ρ : Ro) : evE Γ gl (.bin o a b : E) ρ = (bnd2 (evE Γ gl a ρ) fun p ρ1 => bnd2 (evE Γ gl b ρ1) fun q ρ2 => bnd1 (getC ρ2 p) fun x => bnd1 (getC ρ2 q) fun y => bnd1 (bin2 o x y) fun w => some (.tmp w, ρ2)) := by first | rfl | (unfold evE; rfl)
theorem evE_neg (a : E) (ρ : Ro) : evE Γ gl (.neg a : E) ρ = (bnd2 (evE Γ gl a ρ) fun p ρ1 => bnd1 (getQ ρ1 p) fun x => bnd1 (intD x) fun i => some (.tmp (.val (.int (-i))), ρ1)) := by first | rfl | (unfold evE; rfl)
theorem evE_cmp (o : Cm) (a : E) (b : E) (ρ : Ro) : evE Γ gl (.cmp o a b : E) ρ = (bnd2 (evE Γ gl a ρ) fun p ρ1 => bnd2 (evE Γ gl b ρ1) fun q ρ2 => bnd1 (getQ ρ2 p) fun x => bnd1 (getQ ρ2 q) fun y => bnd1 (cmp2 o x y) fun c => some (.tmp (.val (.bl c)), ρ2)) := by first | rfl | (unfold evE; rfl)
theorem evE_chain (o : Cm) (o2 : Cm) (a : E) (b : E) (c : E) (ρ : Ro) : evE Γ gl (.chain o o2 a b c : E) ρ = (bnd2 (evE Γ gl a ρ) fun p ρ1 => bnd2 (evE Γ gl b ρ1) fun q ρ2 => bnd1 (getQ ρ2 p) fun x => bnd1 (getQ ρ2 q) fun y => bnd1 (cmp2 o x y) fun k => match k with
    | false => some (.tmp (.val (.bl false)), ρ2)
    | true => bnd2 (evE Γ gl c ρ2) fun r ρ3 => bnd1 (getQ ρ3 q) fun y' => bnd1 (getQ ρ3 r) fun z => bnd1 (cmp2 o2 y' z) fun d => some (.tmp (.val (.bl d)), ρ3)) := by first | rfl | (unfold evE; rfl)
theorem evE_and (a : E) (b : E) (ρ : Ro) : evE Γ gl (.and a b : E) ρ = (bnd2 (tstOf (evE Γ gl a ρ)) fun k ρ1 => match k with
    | true => bnd2 (tstOf (evE Γ gl b ρ1)) fun c ρ2 => some (.tmp (.val (.bl c)), ρ2)
    | false => some (.tmp (.val (.bl false)), ρ1)) := by first | rfl | (unfold evE; rfl)
theorem evE_or (a : E) (b : E) (ρ : Ro) : evE Γ gl (.or a b : E) ρ = (bnd2 (tstOf (evE Γ gl a ρ)) fun k ρ1 => match k with
    | true => some (.tmp (.val (.bl true)), ρ1)
    | false => bnd2 (tstOf (evE Γ gl b ρ1)) fun c ρ2 => some (.tmp (.val (.bl c)), ρ2)) := by first | rfl | (unfold evE; rfl)
theorem evE_not (a : E) (ρ : Ro) : evE Γ gl (.not a : E) ρ = (bnd2 (tstOf (evE Γ gl a ρ)) fun c ρ1 => some (.tmp (.val (.bl (!c))), ρ1)) := by first | rfl | (unfold evE; rfl)
theorem evE_ife (c : E) (a : E) (b : E) (ρ : Ro) : evE Γ gl (.ife c a b : E) ρ = (bnd2 (tstOf (evE Γ gl c ρ)) fun k ρ1 => match k with
    | true => evE Γ gl a ρ1
    | false => evE Γ gl b ρ1) := by first | rfl | (unfold evE; rfl)
theorem evE_ix (a : E) (b : E) (ρ : Ro) : evE Γ gl (.ix a b : E) ρ = (bnd2 (evE Γ gl a ρ) fun p ρ1 => bnd2 (evE Γ gl b ρ1) fun q ρ2 => bnd1 (getQ ρ2 p) fun x => bnd1 (getQ ρ2 q) fun y => bnd1 (ixD x y) fun d => some (.tmp (.val d), ρ2)) := by first | rfl | (unfold evE; rfl)
theorem evE_sl (a : E) (lo : E) (hi : E) (ρ : Ro) : evE Γ gl (.sl a lo hi : E) ρ = (bnd2 (evE Γ gl a ρ) fun p ρ1 => bnd2 (evO Γ gl lo ρ1) fun l ρ2 => bnd2 (evO Γ gl hi ρ2) fun h ρ3 => bnd1 (getQ ρ3 p) fun x => bnd1 (slD x l h) fun w => some (.tmp w, ρ3)) := by first | rfl | (unfold evE; rfl)
theorem evE_rev (a : E) (ρ : Ro) : evE Γ gl (.rev a : E) ρ = (bnd2 (evE Γ gl a ρ) fun p ρ1 => bnd1 (getQ ρ1 p) fun x => bnd1 (revW x) fun w => some (.tmp w, ρ1)) := by first | rfl | (unfold evE; rfl)
theorem evE_fld (c : Str) (f : Nat) (a : E) (ρ : Ro) : evE Γ gl (.fld c f a : E) ρ = (bnd2 (evE Γ gl a ρ) fun p ρ1 => bnd1 (getQ ρ1 p) fun x => bnd1 (fldD c f x) fun d => some (.tmp (.val d), ρ1)) := by first | rfl | (unfold evE; rfl)
theorem evE_call (f : Nat) (es : List E) (ρ : Ro) : evE Γ gl (.call f es : E) ρ = (bnd2 (evEs Γ gl es ρ) fun ps ρ1 => bnd1 (Γ f) fun fn => bnd2 (toVals ρ1 (valPs fn.modes ps)) fun vals ρ2 => bnd1 (mergeA ρ2 fn.modes ps vals) fun ds => req (okSlots fn.modes ps) (bnd2 (fn.run ds) fun w outs => some (.tmp w, putBack ρ2 fn.modes ps outs))) := by first | rfl | (unfold evE; rfl)
theorem evE_callm (f : Nat) (e : E) (es : List E) (ρ : Ro) : evE Γ gl (.callm f e es : E) ρ = (bnd2 (evE Γ gl e ρ) fun p ρ1 => bnd1 (getQ ρ1 p) fun d => bnd1 (Γ f) fun fn => bnd2 (evEs Γ gl es ρ1) fun ps ρ2 => bnd2 (toVals ρ2 ps) fun ds ρ3 => bnd2 (fn.run (d :: ds)) fun w outs => req outs.isEmpty (some (.tmp w, ρ3))) := by first | rfl | (unfold evE; rfl)
theorem evE_bi (b : Bi) (es : List E) (ρ : Ro) : evE Γ gl (.bi b es : E) ρ = (bnd2 (evEs Γ gl es ρ) fun ps ρ1 => bnd1 (getQs ρ1 ps) fun ds => bnd1 (biRun b ds) fun w => some (.tmp w, ρ1)) := by first | rfl | (unfold evE; rfl)
theorem evE_bm (m : Bm) (o : E) (es : List E) (ρ : Ro) : evE Γ gl (.bm m o es : E) ρ = (bnd2 (evE Γ gl o ρ) fun p ρ1 => bnd1 (getQ ρ1 p) fun d => bnd2 (evEs Γ gl es ρ1) fun ps ρ2 => bnd1 (getQs ρ2 ps) fun ds => bnd1 (bmRun m d ds) fun w => some (.tmp w, ρ2)) := by first | rfl | (unfold evE; rfl)
theorem evE_signs (e : E) (ρ : Ro) : evE Γ gl (.signs e : E) ρ = (bnd2 (evE Γ gl e ρ) fun p ρ1 => bnd1 (getQ ρ1 p) fun d => bnd1 (strD d) fun x => req (decide (x.length ≤ big)) (some (.tmp (.own (signs x)), ρ1))) := by first | rfl | (unfold evE; rfl)
theorem evE_popAt (i : Nat) (e : E) (ρ : Ro) : evE Γ gl (.popAt i e : E) ρ = (bnd1 ((ρ[i]?).join) fun w0 => bnd1 (ownW w0) fun _ => bnd2 (evE Γ gl e ρ) fun p ρ1 => bnd1 (getQ ρ1 p) fun d => bnd1 (intD d) fun k => bnd1 ((ρ1[i]?).join) fun w => bnd1 (ownW w) fun ds => req (decide (0 ≤ k) && decide (k ≤ 1000000)) (bnd1 (ds[k.toNat]?) fun d => some (.tmp (.val d), ρ1.set i (some (.own (ds.eraseIdx k.toNat)))))) := by first | rfl | (unfold evE; rfl)
theorem evE_comp (elt : E) (g : G) (it : E) (c : E) (own : List Nat) (ρ : Ro) : evE Γ gl (.comp elt g it c own : E) ρ = (bnd2 (evI Γ gl it ρ) fun ds ρ1 => req (clearR ρ1 own) (bnd2 (compL own g (fun ρ => tstOf (evE Γ gl c ρ)) (fun ρ => evE Γ gl elt ρ) ds (wipeR ρ1 own) []) fun out ρ2 => some (.tmp (.own out), backR ρ1 ρ2 own))) := by first | rfl | (unfold evE; rfl)
theorem evE_fstr (es : List E) (ρ : Ro) : evE Γ gl (.fstr es : E) ρ = (bnd2 (evFs Γ gl es ρ Str.empty) fun x ρ1 => some (.tmp (.val (.str x)), ρ1)) := by first | rfl | (unfold evE; rfl)
theorem evO_nil  (ρ : Ro) : evO Γ gl (.nil : E) ρ = (some (none, ρ)) := by first | rfl | (unfold evO; rfl)
theorem evO_seq (e : E) (ρ : Ro) : evO Γ gl (.seq e : E) ρ = (bnd2 (evE Γ gl e ρ) fun p ρ1 => bnd1 (getQ ρ1 p) fun d => bnd1 (intD d) fun i => some (some i, ρ1)) := by first | rfl | (unfold evO; rfl)
theorem evI_seq (e : E) (ρ : Ro) : evI Γ gl (.seq e : E) ρ = (bnd2 (evE Γ gl e ρ) fun p ρ1 => walkP ρ1 p) := by first | rfl | (unfold evI; rfl)
theorem evI_rng1 (a : E) (ρ : Ro) : evI Γ gl (.rng1 a : E) ρ = (bnd2 (evE Γ gl a ρ) fun p ρ1 => bnd1 (getQ ρ1 p) fun d => bnd1 (intD d) fun n => req (isSm n) (some (rangeD 0 n, ρ1))) := by first | rfl | (unfold evI; rfl)
theorem evI_rng2 (a : E) (b : E) (ρ : Ro) : evI Γ gl (.rng2 a b : E) ρ = (bnd2 (evE Γ gl a ρ) fun p ρ1 => bnd2 (evE Γ gl b ρ1) fun q ρ2 => bnd1 (getQ ρ2 p) fun x => bnd1 (intD x) fun m => bnd1 (getQ ρ2 q) fun y => bnd1 (intD y) fun n => req (isSm m && isSm n) (some (rangeD m n, ρ2))) := by first | rfl | (unfold evI; rfl)
theorem evI_zip (a : E) (b : E) (ρ : Ro) : evI Γ gl (.zip a b : E) ρ = (bnd2 (evE Γ gl a ρ) fun p ρ1 => bnd2 (evE Γ gl b ρ1) fun q ρ2 => bnd2 (toVal ρ2 p) fun x ρ3 => bnd2 (toVal ρ3 q) fun y ρ4 => bnd1 (zip2 x y) fun l => some (l, ρ4)) := by first | rfl | (unfold evI; rfl)
theorem evI_enum (a : E) (ρ : Ro) : evI Γ gl (.enum a : E) ρ = (bnd2 (evE Γ gl a ρ) fun p ρ1 => bnd2 (toVal ρ1 p) fun d ρ2 => bnd1 (seqD d) fun ds => some (enumD 0 ds, ρ2)) := by first | rfl | (unfold evI; rfl)
theorem evS_asg (g : G) (e : E) (ρ : Ro) : evS Γ gl (.asg g e : S) ρ = (bnd2 (evE Γ gl e ρ) fun p ρ1 => bnd1 (put g p ρ1) fun ρ2 => some (.nx, ρ2)) := by first | rfl | (unfold evS; rfl)
theorem evS_asgS (i : Nat) (j : Nat) (e : E) (ρ : Ro) : evS Γ gl (.asgS i j e : S) ρ = (bnd2 (evE Γ gl e ρ) fun p ρ1 => bnd1 (getQ ρ1 p) fun d => bnd1 (lstD d) fun l => req (decide (l.length ≤ 10000)) (match l with
    | x :: r => some (.nx, (ρ1.set i (some (.val x))).set j (some (.own r)))
    | [] => none)) := by first | rfl | (unfold evS; rfl)
theorem evS_par (i : Nat) (j : Nat) (a : E) (b : E) (ρ : Ro) : evS Γ gl (.par i j a b : S) ρ = (bnd2 (evE Γ gl a ρ) fun p ρ1 => bnd2 (evE Γ gl b ρ1) fun q ρ2 => bnd2 (give ρ2 p) fun v ρ3 => bnd2 (give ρ3 q) fun w ρ4 => some (.nx, (ρ4.set i (some v)).set j (some w))) := by first | rfl | (unfold evS; rfl)
theorem evS_setix (i : Nat) (ie : E) (e : E) (ρ : Ro) : evS Γ gl (.setix i ie e : S) ρ = (bnd1 ((ρ[i]?).join) fun w0 => bnd1 (ownW w0) fun _ => bnd2 (evE Γ gl e ρ) fun p ρ1 => bnd2 (toVal ρ1 p) fun d ρ2 => bnd2 (evE Γ gl ie ρ2) fun q ρ3 => bnd1 (getQ ρ3 q) fun x => bnd1 (intD x) fun k => bnd1 ((ρ3[i]?).join) fun w => bnd1 (ownW w) fun ds =>
      req (decide (0 ≤ k) && decide (k.toNat < ds.length)) (some (.nx, ρ3.set i (some (.own (ds.set k.toNat d)))))) := by first | rfl | (unfold evS; rfl)
theorem evS_expr (e : E) (ρ : Ro) : evS Γ gl (.expr e : S) ρ = (bnd2 (evE Γ gl e ρ) fun _ ρ1 => some (.nx, ρ1)) := by first | rfl | (unfold evS; rfl)
theorem evS_app (i : Nat) (e : E) (ρ : Ro) : evS Γ gl (.app i e : S) ρ = (bnd1 ((ρ[i]?).join) fun w0 => bnd1 (ownW w0) fun _ => bnd2 (evE Γ gl e ρ) fun p ρ1 => bnd2 (toVal ρ1 p) fun d ρ2 => bnd1 ((ρ2[i]?).join) fun w => bnd1 (ownW w) fun ds => req (decide (ds.length < big)) (some (.nx, ρ2.set i (some (.own (ds ++ [d])))))) := by first | rfl | (unfold evS; rfl)
theorem evS_ext (i : Nat) (e : E) (ρ : Ro) : evS Γ gl (.ext i e : S) ρ = (bnd1 ((ρ[i]?).join) fun w0 => bnd1 (ownW w0) fun _ => bnd2 (evE Γ gl e ρ) fun p ρ1 => bnd1 (getC ρ1 p) fun x => bnd1 (lstD x) fun es => bnd1 ((ρ1[i]?).join) fun w => bnd1 (ownW w) fun ds => req (decide (ds.length + es.length ≤ big)) (some (.nx, ρ1.set i (some (.own (ds ++ es)))))) := by first | rfl | (unfold evS; rfl)
theorem evS_ite (c : E) (t : List S) (f : List S) (ρ : Ro) : evS Γ gl (.ite c t f : S) ρ = (bnd2 (tstOf (evE Γ gl c ρ)) fun k ρ1 => match k with
    | true => evSs Γ gl t ρ1
    | false => evSs Γ gl f ρ1) := by first | rfl | (unfold evS; rfl)
theorem evS_for (g : G) (it : E) (b : List S) (ρ : Ro) : evS Γ gl (.for_ g it b : S) ρ = (bnd2 (evI Γ gl it ρ) fun ds ρ1 => forL g (fun ρ => evSs Γ gl b ρ) ds ρ1) := by first | rfl | (unfold evS; rfl)
theorem evS_while (n : Nat) (c : E) (b : List S) (ρ : Ro) : evS Γ gl (.while_ n c b : S) ρ = (whileL (fun ρ => tstOf (evE Γ gl c ρ)) (fun ρ => evSs Γ gl b ρ) n ρ) := by first | rfl | (unfold evS; rfl)
theorem evS_ret (e : E) (ρ : Ro) : evS Γ gl (.ret e : S) ρ = (bnd2 (evE Γ gl e ρ) fun p ρ1 => bnd2 (give ρ1 p) fun w ρ2 => some (.ret w, ρ2)) := by first | rfl | (unfold evS; rfl)
theorem evS_retN  (ρ : Ro) : evS Γ gl (.retN : S) ρ = (some (.ret (.val .non), ρ)) := by first | rfl | (unfold evS; rfl)
theorem evS_pass  (ρ : Ro) : evS Γ gl (.pass : S) ρ = (some (.nx, ρ)) := by first | rfl | (unfold evS; rfl)
theorem evS_brk  (ρ : Ro) : evS Γ gl (.brk : S) ρ = (some (.brk, ρ)) := by first | rfl | (unfold evS; rfl)
theorem evS_cont  (ρ : Ro) : evS Γ gl (.cont : S) ρ = (some (.cont, ρ)) := by first | rfl | (unfold evS; rfl)
theorem evS_try (b : List S) (ρ : Ro) : evS Γ gl (.try_ b : S) ρ = (evSs Γ gl b ρ) := by first | rfl | (unfold evS; rfl)
end
theorem evSs_nil (Γ : Nat → Option Fn) (gl : Str → Option D) (ρ : Ro) : evSs Γ gl [] ρ = some (.nx, ρ) := rfl
theorem evSs_cons (Γ : Nat → Option Fn) (gl : Str → Option D) (s : S) (r : List S) (ρ : Ro) : evSs Γ gl (s :: r) ρ = bnd2 (evS Γ gl s ρ) fun o ρ1 => match o with | .nx => evSs Γ gl r ρ1 | o => some (o, ρ1) := by first | rfl | (conv => lhs; unfold evSs)
end DT

end
section
/-! Plain law: what must hold behind a computation (Wp), and its rules for simp. -/
namespace DT
open PySem L2

/-! ### a computation gives something with Q -/
def Wp {α β : Type} (x : Option (α × β)) (Q : α → β → Prop) : Prop := ∃ a b, x = some (a, b) ∧ Q a b
def Wq {α : Type} (x : Option α) (Q : α → Prop) : Prop := ∃ a, x = some a ∧ Q a
@[scoped simp] theorem wp_some {α β : Type} (a : α) (b : β) (Q : α → β → Prop) : Wp (some (a, b)) Q = Q a b := propext ⟨fun ⟨_, _, e, q⟩ => by cases e; exact q, fun q => ⟨a, b, rfl, q⟩⟩
@[scoped simp] theorem wq_some {α : Type} (a : α) (Q : α → Prop) : Wq (some a) Q = Q a := propext ⟨fun ⟨_, e, q⟩ => by cases e; exact q, fun q => ⟨a, rfl, q⟩⟩
theorem wp_bnd2 {α β γ δ : Type} (x : Option (α × β)) (f : α → β → Option (γ × δ)) (Q : γ → δ → Prop) : Wp (bnd2 x f) Q = Wp x fun a b => Wp (f a b) Q := propext ⟨fun ⟨c, d, e, q⟩ => by
  obtain ⟨a, b, h1, h2⟩ := bnd2_of e
  exact ⟨a, b, h1, c, d, h2, q⟩, fun ⟨a, b, h1, c, d, h2, q⟩ => ⟨c, d, by rw [h1]; exact h2, q⟩⟩
theorem wp_bnd1 {α γ δ : Type} (x : Option α) (f : α → Option (γ × δ)) (Q : γ → δ → Prop) : Wp (bnd1 x f) Q = Wq x fun a => Wp (f a) Q := propext ⟨fun ⟨c, d, e, q⟩ => by
  obtain ⟨a, h1, h2⟩ := bnd1_of e
  exact ⟨a, h1, c, d, h2, q⟩, fun ⟨a, h1, c, d, h2, q⟩ => ⟨c, d, by rw [h1]; exact h2, q⟩⟩
theorem wq_bnd2 {α β γ : Type} (x : Option (α × β)) (f : α → β → Option γ) (Q : γ → Prop) : Wq (bnd2 x f) Q = Wp x fun a b => Wq (f a b) Q := propext ⟨fun ⟨c, e, q⟩ => by
  obtain ⟨a, b, h1, h2⟩ := bnd2_of e
  exact ⟨a, b, h1, c, h2, q⟩, fun ⟨a, b, h1, c, h2, q⟩ => ⟨c, by rw [h1]; exact h2, q⟩⟩
theorem wq_bnd1 {α γ : Type} (x : Option α) (f : α → Option γ) (Q : γ → Prop) : Wq (bnd1 x f) Q = Wq x fun a => Wq (f a) Q := propext ⟨fun ⟨c, e, q⟩ => by
  obtain ⟨a, h1, h2⟩ := bnd1_of e
  exact ⟨a, h1, c, h2, q⟩, fun ⟨a, h1, c, h2, q⟩ => ⟨c, by rw [h1]; exact h2, q⟩⟩
@[scoped simp] theorem wp_req {α β : Type} (c : Bool) (x : Option (α × β)) (Q : α → β → Prop) : Wp (req c x) Q = (c = true ∧ Wp x Q) := propext ⟨fun ⟨a, b, e, q⟩ => by
  obtain ⟨h1, h2⟩ := req_of e
  exact ⟨h1, a, b, h2, q⟩, fun ⟨h1, a, b, h2, q⟩ => ⟨a, b, by rw [h1]; exact h2, q⟩⟩
@[scoped simp] theorem wq_req {α : Type} (c : Bool) (x : Option α) (Q : α → Prop) : Wq (req c x) Q = (c = true ∧ Wq x Q) := propext ⟨fun ⟨a, e, q⟩ => by
  obtain ⟨h1, h2⟩ := req_of e
  exact ⟨h1, a, h2, q⟩, fun ⟨h1, a, h2, q⟩ => ⟨a, by rw [h1]; exact h2, q⟩⟩
theorem Wp.of {α β : Type} {x : Option (α × β)} {Q R : α → β → Prop} (h : Wp x Q) (i : ∀ a b, Q a b → R a b) : Wp x R := by
  obtain ⟨a, b, e, q⟩ := h
  exact ⟨a, b, e, i a b q⟩
theorem Wq.of {α : Type} {x : Option α} {Q R : α → Prop} (h : Wq x Q) (i : ∀ a, Q a → R a) : Wq x R := by
  obtain ⟨a, e, q⟩ := h
  exact ⟨a, e, i a q⟩
theorem Wp.eq {α β : Type} {x : Option (α × β)} {a : α} {b : β} (h : Wp x fun a' b' => a' = a ∧ b' = b) : x = some (a, b) := by
  obtain ⟨_, _, e, rfl, rfl⟩ := h
  exact e
theorem Wq.eq {α : Type} {x : Option α} {a : α} (h : Wq x fun a' => a' = a) : x = some a := by
  obtain ⟨_, e, rfl⟩ := h
  exact e
theorem Wp.rw {α β : Type} {x : Option (α × β)} {Q : α → β → Prop} {a : α} {b : β} (h : x = some (a, b)) (q : Q a b) : Wp x Q := ⟨a, b, h, q⟩
theorem Wq.rw {α : Type} {x : Option α} {Q : α → Prop} {a : α} (h : x = some a) (q : Q a) : Wq x Q := ⟨a, h, q⟩

/-! ### equations -/
def isStarE : E → Bool
  | .star _ => true
  | _ => false
theorem evEs_cns (Γ : Nat → Option Fn) (gl : Str → Option D) (e : E) (es : List E) (ρ : Ro) (h : isStarE e = false) : evEs Γ gl (e :: es) ρ = bnd2 (evE Γ gl e ρ) fun p ρ1 => bnd2 (evEs Γ gl es ρ1) fun ps ρ2 => some (p :: ps, ρ2) := by
  cases e <;> first | rfl | (cases h)
theorem evEs_nil (Γ : Nat → Option Fn) (gl : Str → Option D) (ρ : Ro) : evEs Γ gl [] ρ = some ([], ρ) := by unfold evEs; rfl
theorem evEs_star (Γ : Nat → Option Fn) (gl : Str → Option D) (e : E) (es : List E) (ρ : Ro) : evEs Γ gl (.star e :: es) ρ = bnd2 (evE Γ gl e ρ) fun p ρ1 => bnd1 (getQ ρ1 p) fun d => bnd1 (seqD d) fun ds => bnd2 (evEs Γ gl es ρ1) fun ps ρ2 => some (ds.map (fun d => Pl.tmp (.val d)) ++ ps, ρ2) := by
  conv => lhs; unfold evEs
theorem evFs_nil (Γ : Nat → Option Fn) (gl : Str → Option D) (ρ : Ro) (acc : Str) : evFs Γ gl [] ρ acc = some (acc, ρ) := by unfold evFs; rfl
theorem evFs_cons (Γ : Nat → Option Fn) (gl : Str → Option D) (e : E) (es : List E) (ρ : Ro) (acc : Str) : evFs Γ gl (e :: es) ρ acc = bnd2 (evE Γ gl e ρ) fun p ρ1 => bnd1 (getQ ρ1 p) fun d => bnd1 (fmtD d) fun x => req (decide (acc.length + x.length ≤ big)) (evFs Γ gl es ρ1 (acc ++ x)) := by
  conv => lhs; unfold evFs
theorem tstOf_eq (r : Option (Pl × Ro)) : tstOf r = bnd2 r fun p ρ => bnd1 (getQ ρ p) fun d => bnd1 (blD d) fun b => some (b, ρ) := rfl
@[scoped simp] theorem toVals_nil (ρ : Ro) : toVals ρ [] = some ([], ρ) := rfl
@[scoped simp] theorem toVals_cons (ρ : Ro) (p : Pl) (ps : List Pl) : toVals ρ (p :: ps) = bnd2 (toVal ρ p) fun d ρ1 => bnd2 (toVals ρ1 ps) fun ds ρ2 => some (d :: ds, ρ2) := by
  conv => lhs; unfold toVals
  cases toVal ρ p with
  | none => rfl
  | some q =>
    obtain ⟨d, ρ1⟩ := q
    simp only [bnd2_some]
    cases toVals ρ1 ps with
    | none => rfl
    | some q => rfl
@[scoped simp] theorem toVal_tmpv (ρ : Ro) (d : D) : toVal ρ (.tmp (.val d)) = some (d, ρ) := rfl
@[scoped simp] theorem toVal_tmpo (ρ : Ro) (d : List D) : toVal ρ (.tmp (.own d)) = some (.lst d, ρ) := rfl
def toValW (ρ : Ro) (i : Nat) : Option W → Option (D × Ro)
  | some (.val d) => some (d, ρ)
  | some (.own ds) => some (.lst ds, ρ.set i (some (.val (.lst ds))))
  | _ => none
@[scoped simp] theorem toVal_slot (ρ : Ro) (i : Nat) : toVal ρ (.slot i) = toValW ρ i ((ρ[i]?).join) := rfl
@[scoped simp] theorem toValW_val (ρ : Ro) (i : Nat) (d : D) : toValW ρ i (some (.val d)) = some (d, ρ) := rfl
@[scoped simp] theorem toValW_own (ρ : Ro) (i : Nat) (ds : List D) : toValW ρ i (some (.own ds)) = some (.lst ds, ρ.set i (some (.val (.lst ds)))) := rfl
@[scoped simp] theorem getQ_eq (ρ : Ro) (p : Pl) : getQ ρ p = (getW ρ p).map contQ := rfl
@[scoped simp] theorem getC_eq (ρ : Ro) (p : Pl) : getC ρ p = (getW ρ p).bind cont := rfl
@[scoped simp] theorem getW_slot (ρ : Ro) (i : Nat) : getW ρ (.slot i) = (ρ[i]?).join := rfl
@[scoped simp] theorem getW_tmp (ρ : Ro) (w : W) : getW ρ (.tmp w) = some w := rfl
@[scoped simp] theorem contQ_val (d : D) : contQ (.val d) = d := rfl
@[scoped simp] theorem contQ_own (d : List D) : contQ (.own d) = .lst d := rfl
@[scoped simp] theorem contQ_bor (d : List D) : contQ (.bor d) = .lst d := rfl
@[scoped simp] theorem cont_val (d : D) : cont (.val d) = some d := rfl
@[scoped simp] theorem cont_own (d : List D) : cont (.own d) = some (.lst d) := rfl
@[scoped simp] theorem getQs_nil (ρ : Ro) : getQs ρ [] = some [] := rfl
@[scoped simp] theorem getQs_cons (ρ : Ro) (p : Pl) (ps : List Pl) : getQs ρ (p :: ps) = bnd1 (getQ ρ p) fun d => bnd1 (getQs ρ ps) fun ds => some (d :: ds) := rfl
@[scoped simp] theorem blD_bl (b : Bool) : blD (.bl b) = some b := rfl
@[scoped simp] theorem intD_int (b : Int) : intD (.int b) = some b := rfl
@[scoped simp] theorem strD_str (b : Str) : strD (.str b) = some b := rfl
@[scoped simp] theorem lstD_lst (b : List D) : lstD (.lst b) = some b := rfl
@[scoped simp] theorem ownW_own (b : List D) : ownW (.own b) = some b := rfl
@[scoped simp] theorem seqD_tup (b : List D) : seqD (.tup b) = some b := rfl
@[scoped simp] theorem seqD_lst (b : List D) : seqD (.lst b) = some b := rfl
@[scoped simp] theorem give_tmpv (ρ : Ro) (d : D) : give ρ (.tmp (.val d)) = some (.val d, ρ) := rfl
@[scoped simp] theorem give_tmpo (ρ : Ro) (d : List D) : give ρ (.tmp (.own d)) = some (.own d, ρ) := rfl
def giveW (ρ : Ro) (i : Nat) : Option W → Option (W × Ro)
  | some (.val d) => some (.val d, ρ)
  | some (.own ds) => some (.own ds, ρ.set i none)
  | _ => none
@[scoped simp] theorem give_slot (ρ : Ro) (i : Nat) : give ρ (.slot i) = giveW ρ i ((ρ[i]?).join) := rfl
@[scoped simp] theorem giveW_val (ρ : Ro) (i : Nat) (d : D) : giveW ρ i (some (.val d)) = some (.val d, ρ) := rfl
@[scoped simp] theorem giveW_own (ρ : Ro) (i : Nat) (ds : List D) : giveW ρ i (some (.own ds)) = some (.own ds, ρ.set i none) := rfl
@[scoped simp] theorem outW_nx : outW .nx = some (.val .non) := rfl
@[scoped simp] theorem outW_ret (w : W) : outW (.ret w) = some w := rfl
@[scoped simp] theorem put_own (i : Nat) (ds : List D) (ρ : Ro) : put (.name i) (.tmp (.own ds)) ρ = some (ρ.set i (some (.own ds))) := rfl
@[scoped simp] theorem put_val (g : G) (d : D) (ρ : Ro) : put g (.tmp (.val d)) ρ = asg g d ρ := by cases g <;> rfl
@[scoped simp] theorem put_slot (g : G) (i : Nat) (ρ : Ro) : put g (.slot i) ρ = bnd2 (toVal ρ (.slot i)) fun d ρ1 => asg g d ρ1 := by cases g <;> rfl
@[scoped simp] theorem asg_name (i : Nat) (d : D) (ρ : Ro) : asg (.name i) d ρ = some (ρ.set i (some (.val d))) := by unfold asg; rfl
@[scoped simp] theorem asg_tup (gs : List G) (ds : List D) (ρ : Ro) : asg (.tup gs) (.tup ds) ρ = asgs gs ds ρ := by conv => lhs; unfold asg
@[scoped simp] theorem asgs_nil (ρ : Ro) : asgs [] [] ρ = some ρ := by unfold asgs; rfl
@[scoped simp] theorem asgs_cons (g : G) (gs : List G) (d : D) (ds : List D) (ρ : Ro) : asgs (g :: gs) (d :: ds) ρ = bnd1 (asg g d ρ) fun ρ1 => asgs gs ds ρ1 := by
  conv => lhs; unfold asgs
  cases asg g d ρ <;> rfl
@[scoped simp] theorem walkP_val (ρ : Ro) (d : D) : walkP ρ (.tmp (.val d)) = bnd1 (seqD d) fun ds => some (ds, ρ) := rfl
@[scoped simp] theorem walkP_own (ρ : Ro) (ds : List D) : walkP ρ (.tmp (.own ds)) = some (ds, ρ) := rfl
def walkW (ρ : Ro) (i : Nat) : Option W → Option (List D × Ro)
  | some (.val d) => bnd1 (seqD d) fun ds => some (ds, ρ)
  | some (.own ds) => some (ds, ρ.set i (some (.val (.lst ds))))
  | some (.bor ds) => some (ds, ρ)
  | none => none
@[scoped simp] theorem walkP_slot (ρ : Ro) (i : Nat) : walkP ρ (.slot i) = walkW ρ i ((ρ[i]?).join) := by
  unfold walkP
  rw [toVal_slot, getQ_eq, getW_slot]
  cases (ρ[i]?).join with
  | none => rfl
  | some w => cases w <;> rfl
@[scoped simp] theorem walkW_val (ρ : Ro) (i : Nat) (d : D) : walkW ρ i (some (.val d)) = bnd1 (seqD d) fun ds => some (ds, ρ) := rfl
@[scoped simp] theorem walkW_own (ρ : Ro) (i : Nat) (ds : List D) : walkW ρ i (some (.own ds)) = some (ds, ρ.set i (some (.val (.lst ds)))) := rfl
@[scoped simp] theorem walkW_bor (ρ : Ro) (i : Nat) (ds : List D) : walkW ρ i (some (.bor ds)) = some (ds, ρ) := rfl
@[scoped simp] theorem clearR_nil (ρ : Ro) : clearR ρ [] = true := rfl
def clearW : Option W → Bool
  | none => true
  | some (.val _) => true
  | _ => false
@[scoped simp] theorem clearR_cons (ρ : Ro) (v : Nat) (l : List Nat) : clearR ρ (v :: l) = (clearW ((ρ[v]?).join) && clearR ρ l) := by
  unfold clearR
  rw [List.all_cons]
  congr 1
@[scoped simp] theorem clearW_none : clearW none = true := rfl
@[scoped simp] theorem clearW_val (d : D) : clearW (some (.val d)) = true := rfl
@[scoped simp] theorem wipeR_nil (ρ : Ro) : wipeR ρ [] = ρ := rfl
@[scoped simp] theorem wipeR_cons (ρ : Ro) (v : Nat) (l : List Nat) : wipeR ρ (v :: l) = (wipeR ρ l).set v none := rfl
@[scoped simp] theorem backR_nil (ρ ρ1 : Ro) : backR ρ ρ1 [] = ρ1 := rfl
@[scoped simp] theorem backR_cons (ρ ρ1 : Ro) (v : Nat) (l : List Nat) : backR ρ ρ1 (v :: l) = (backR ρ ρ1 l).set v ((ρ[v]?).join) := rfl
@[scoped simp] theorem args0_nil : args0 [] [] = some [] := rfl
@[scoped simp] theorem args0_val (ms : List Mode) (d : D) (ds : List D) : args0 (.val :: ms) (d :: ds) = (args0 ms ds).map (some (.val d) :: ·) := rfl
@[scoped simp] theorem args0_ow (ms : List Mode) (d : List D) (ds : List D) : args0 (.own :: ms) (.lst d :: ds) = (args0 ms ds).map (some (.own d) :: ·) := rfl
@[scoped simp] theorem args0_bor (ms : List Mode) (d : List D) (ds : List D) : args0 (.bor :: ms) (.lst d :: ds) = (args0 ms ds).map (some (.bor d) :: ·) := rfl
@[scoped simp] theorem outs0_nil (ρ : Ro) : outs0 [] ρ = some [] := by cases ρ <;> rfl
@[scoped simp] theorem outs0_ow (ms : List Mode) (l : List D) (ρ : Ro) : outs0 (.own :: ms) (some (.own l) :: ρ) = (outs0 ms ρ).map (l :: ·) := rfl
@[scoped simp] theorem outs0_val (ms : List Mode) (x : Option W) (ρ : Ro) : outs0 (.val :: ms) (x :: ρ) = outs0 ms ρ := rfl
@[scoped simp] theorem outs0_bor (ms : List Mode) (x : Option W) (ρ : Ro) : outs0 (.bor :: ms) (x :: ρ) = outs0 ms ρ := rfl
@[scoped simp] theorem valPs_nil (ps : List Pl) : valPs [] ps = [] := by cases ps <;> rfl
@[scoped simp] theorem valPs_val (ms : List Mode) (p : Pl) (ps : List Pl) : valPs (.val :: ms) (p :: ps) = p :: valPs ms ps := rfl
@[scoped simp] theorem valPs_own (ms : List Mode) (p : Pl) (ps : List Pl) : valPs (.own :: ms) (p :: ps) = valPs ms ps := rfl
@[scoped simp] theorem valPs_bor (ms : List Mode) (p : Pl) (ps : List Pl) : valPs (.bor :: ms) (p :: ps) = valPs ms ps := rfl
@[scoped simp] theorem putBack_nil (ρ : Ro) (ps : List Pl) (ls : List (List D)) : putBack ρ [] ps ls = ρ := by cases ps <;> cases ls <;> rfl
@[scoped simp] theorem putBack_own (ρ : Ro) (ms : List Mode) (i : Nat) (ps : List Pl) (l : List D) (ls : List (List D)) : putBack ρ (.own :: ms) (.slot i :: ps) (l :: ls) = (putBack ρ ms ps ls).set i (some (.own l)) := rfl
@[scoped simp] theorem putBack_val (ρ : Ro) (ms : List Mode) (p : Pl) (ps : List Pl) (ls : List (List D)) : putBack ρ (.val :: ms) (p :: ps) ls = putBack ρ ms ps ls := by cases ls <;> rfl
@[scoped simp] theorem putBack_bor (ρ : Ro) (ms : List Mode) (p : Pl) (ps : List Pl) (ls : List (List D)) : putBack ρ (.bor :: ms) (p :: ps) ls = putBack ρ ms ps ls := by cases ls <;> rfl
@[scoped simp] theorem isSm_iff (n : Int) : isSm n = (decide (-1000000 ≤ n) && decide (n ≤ 1000000)) := rfl
@[scoped simp] theorem mergeA_nil (ρ : Ro) : mergeA ρ [] [] [] = some [] := rfl
@[scoped simp] theorem mergeA_val (ρ : Ro) (ms : List Mode) (p : Pl) (ps : List Pl) (d : D) (ds : List D) : mergeA ρ (.val :: ms) (p :: ps) (d :: ds) = bnd1 (mergeA ρ ms ps ds) fun r => some (d :: r) := by
  conv => lhs; unfold mergeA
  cases mergeA ρ ms ps ds <;> rfl
@[scoped simp] theorem mergeA_own (ρ : Ro) (ms : List Mode) (i : Nat) (ps : List Pl) (ds : List D) : mergeA ρ (.own :: ms) (.slot i :: ps) ds = bnd1 ((ρ[i]?).join) fun w => bnd1 (ownW w) fun l => bnd1 (mergeA ρ ms ps ds) fun r => some (.lst l :: r) := by
  conv => lhs; unfold mergeA
  cases (ρ[i]?).join with
  | none => rfl
  | some w => cases w <;> first | rfl | (cases mergeA ρ ms ps ds <;> rfl)
@[scoped simp] theorem mergeA_bor (ρ : Ro) (ms : List Mode) (p : Pl) (ps : List Pl) (ds : List D) : mergeA ρ (.bor :: ms) (p :: ps) ds = bnd1 (getQ ρ p) fun d => bnd1 (lstD d) fun l => bnd1 (mergeA ρ ms ps ds) fun r => some (.lst l :: r) := by
  conv => lhs; unfold mergeA
  cases getQ ρ p with
  | none => rfl
  | some w => cases w <;> first | rfl | (cases mergeA ρ ms ps ds <;> rfl)
@[scoped simp] theorem ownSlots_nil (ps : List Pl) : ownSlots [] ps = [] := by cases ps <;> rfl
@[scoped simp] theorem ownSlots_val (ms : List Mode) (p : Pl) (ps : List Pl) : ownSlots (.val :: ms) (p :: ps) = ownSlots ms ps := by cases p <;> rfl
@[scoped simp] theorem ownSlots_bor (ms : List Mode) (p : Pl) (ps : List Pl) : ownSlots (.bor :: ms) (p :: ps) = ownSlots ms ps := by cases p <;> rfl
@[scoped simp] theorem ownSlots_own (ms : List Mode) (i : Nat) (ps : List Pl) : ownSlots (.own :: ms) (.slot i :: ps) = i :: ownSlots ms ps := rfl
@[scoped simp] theorem borSlots_nil (ps : List Pl) : borSlots [] ps = [] := by cases ps <;> rfl
@[scoped simp] theorem borSlots_val (ms : List Mode) (p : Pl) (ps : List Pl) : borSlots (.val :: ms) (p :: ps) = borSlots ms ps := by cases p <;> rfl
@[scoped simp] theorem borSlots_own (ms : List Mode) (p : Pl) (ps : List Pl) : borSlots (.own :: ms) (p :: ps) = borSlots ms ps := by cases p <;> rfl
@[scoped simp] theorem borSlots_bor (ms : List Mode) (i : Nat) (ps : List Pl) : borSlots (.bor :: ms) (.slot i :: ps) = i :: borSlots ms ps := rfl
@[scoped simp] theorem okSlots_eq (ms : List Mode) (ps : List Pl) : okSlots ms ps = (nodupB (ownSlots ms ps) && (ownSlots ms ps).all fun i => !(borSlots ms ps).contains i) := rfl
@[scoped simp] theorem nodupB_nil : nodupB [] = true := rfl
@[scoped simp] theorem nodupB_cns (i : Nat) (r : List Nat) : nodupB (i :: r) = (!r.contains i && nodupB r) := rfl
theorem runFn_eq (Γ : Nat → Option Fn) (gl : Str → Option D) (ms : List Mode) (n : Nat) (body : List S) (ds : List D) : runFn Γ gl ms n body ds = bnd1 (args0 ms ds) fun ρ0 => bnd2 (evSs Γ gl body (ρ0 ++ List.replicate (n - ms.length) none)) fun o ρ => bnd1 (outW o) fun w => bnd1 (outs0 ms ρ) fun l => some (w, l) := rfl

/-! ### what is left to be done, by name -/
section
variable (Γ : Nat → Option Fn) (gl : Str → Option D)
abbrev QE := Pl → Ro → Prop
def kTmp (ρ : Ro) (Q : QE) : W → Prop := fun w => Q (.tmp w) ρ
def kVal (ρ : Ro) (Q : QE) : D → Prop := fun d => Q (.tmp (.val d)) ρ
def kBl (ρ : Ro) (Q : QE) : Bool → Prop := fun b => Q (.tmp (.val (.bl b))) ρ
def kSlot (ρ : Ro) (i : Nat) (Q : QE) : W → Prop := fun _ => Q (.slot i) ρ
def kTup2 (Q : QE) : List D → Ro → Prop := fun ds ρ => ds.length ≤ big ∧ Q (.tmp (.val (.tup ds))) ρ
def kTup (Q : QE) : List Pl → Ro → Prop := fun ps ρ => Wp (toVals ρ ps) (kTup2 Q)
def kLst2 (Q : QE) : List D → Ro → Prop := fun ds ρ => ds.length ≤ big ∧ Q (.tmp (.own ds)) ρ
def kLst (Q : QE) : List Pl → Ro → Prop := fun ps ρ => Wp (toVals ρ ps) (kLst2 Q)
def kBin2 (o : Op2) (p : Pl) (Q : QE) : QE := fun q ρ => Wq (bnd1 (getC ρ p) fun x => bnd1 (getC ρ q) fun y => bin2 o x y) (kTmp ρ Q)
def kBin1 (o : Op2) (b : E) (Q : QE) : QE := fun p ρ => Wp (evE Γ gl b ρ) (kBin2 o p Q)
def kNeg (Q : QE) : QE := fun p ρ => Wq (bnd1 (getQ ρ p) fun x => bnd1 (intD x) fun i => some (D.int (-i))) (kVal ρ Q)
def kCmp2 (o : Cm) (p : Pl) (Q : QE) : QE := fun q ρ => Wq (bnd1 (getQ ρ p) fun x => bnd1 (getQ ρ q) fun y => cmp2 o x y) (kBl ρ Q)
def kCmp1 (o : Cm) (b : E) (Q : QE) : QE := fun p ρ => Wp (evE Γ gl b ρ) (kCmp2 o p Q)
def kCh4 (o2 : Cm) (q : Pl) (Q : QE) : QE := fun r ρ => Wq (bnd1 (getQ ρ q) fun x => bnd1 (getQ ρ r) fun y => cmp2 o2 x y) (kBl ρ Q)
def kCh3 (o2 : Cm) (c : E) (q : Pl) (ρ : Ro) (Q : QE) : Bool → Prop := fun b => match b with
  | false => Q (.tmp (.val (.bl false))) ρ
  | true => Wp (evE Γ gl c ρ) (kCh4 o2 q Q)
def kCh2 (o o2 : Cm) (c : E) (p : Pl) (Q : QE) : QE := fun q ρ => Wq (bnd1 (getQ ρ p) fun x => bnd1 (getQ ρ q) fun y => cmp2 o x y) (kCh3 Γ gl o2 c q ρ Q)
def kCh1 (o o2 : Cm) (b c : E) (Q : QE) : QE := fun p ρ => Wp (evE Γ gl b ρ) (kCh2 Γ gl o o2 c p Q)
def kB (ρ : Ro) (R : Bool → Ro → Prop) : Bool → Prop := fun b => R b ρ
def kTst (R : Bool → Ro → Prop) : QE := fun p ρ => Wq (bnd1 (getQ ρ p) blD) (kB ρ R)
def kTBl (Q : QE) : Bool → Ro → Prop := fun b ρ => Q (.tmp (.val (.bl b))) ρ
def kAnd (b : E) (Q : QE) : Bool → Ro → Prop := fun k ρ => match k with
  | true => Wp (evE Γ gl b ρ) (kTst (kTBl Q))
  | false => Q (.tmp (.val (.bl false))) ρ
def kOr (b : E) (Q : QE) : Bool → Ro → Prop := fun k ρ => match k with
  | true => Q (.tmp (.val (.bl true))) ρ
  | false => Wp (evE Γ gl b ρ) (kTst (kTBl Q))
def kNot (Q : QE) : Bool → Ro → Prop := fun k ρ => Q (.tmp (.val (.bl (!k)))) ρ
def kIfe (a b : E) (Q : QE) : Bool → Ro → Prop := fun k ρ => match k with
  | true => Wp (evE Γ gl a ρ) Q
  | false => Wp (evE Γ gl b ρ) Q
def kIx2 (p : Pl) (Q : QE) : QE := fun q ρ => Wq (bnd1 (getQ ρ p) fun x => bnd1 (getQ ρ q) fun y => ixD x y) (kVal ρ Q)
def kIx1 (b : E) (Q : QE) : QE := fun p ρ => Wp (evE Γ gl b ρ) (kIx2 p Q)
def kSl3 (p : Pl) (l : Option Int) (Q : QE) : Option Int → Ro → Prop := fun h ρ => Wq (bnd1 (getQ ρ p) fun x => slD x l h) (kTmp ρ Q)
def kSl2 (p : Pl) (hi : E) (Q : QE) : Option Int → Ro → Prop := fun l ρ => Wp (evO Γ gl hi ρ) (kSl3 p l Q)
def kSl1 (lo hi : E) (Q : QE) : QE := fun p ρ => Wp (evO Γ gl lo ρ) (kSl2 Γ gl p hi Q)
def kRev (Q : QE) : QE := fun p ρ => Wq (bnd1 (getQ ρ p) revW) (kTmp ρ Q)
def kFld (c : Str) (f : Nat) (Q : QE) : QE := fun p ρ => Wq (bnd1 (getQ ρ p) (fldD c f)) (kVal ρ Q)
def kCall5 (ρ : Ro) (ms : List Mode) (ps : List Pl) (Q : QE) : W → List (List D) → Prop := fun w outs => Q (.tmp w) (putBack ρ ms ps outs)
def kCall4 (fn : Fn) (ρ : Ro) (ps : List Pl) (Q : QE) : List D → Prop := fun ds => okSlots fn.modes ps = true ∧ Wp (fn.run ds) (kCall5 ρ fn.modes ps Q)
def kCall3 (fn : Fn) (ps : List Pl) (Q : QE) : List D → Ro → Prop := fun vals ρ => Wq (mergeA ρ fn.modes ps vals) (kCall4 fn ρ ps Q)
def kCall2 (ρ : Ro) (ps : List Pl) (Q : QE) : Fn → Prop := fun fn => Wp (toVals ρ (valPs fn.modes ps)) (kCall3 fn ps Q)
def kCall1 (f : Nat) (Q : QE) : List Pl → Ro → Prop := fun ps ρ => Wq (Γ f) (kCall2 ρ ps Q)
def kCm5 (ρ : Ro) (Q : QE) : W → List (List D) → Prop := fun w outs => outs.isEmpty = true ∧ Q (.tmp w) ρ
def kCm4 (d : D) (fn : Fn) (Q : QE) : List D → Ro → Prop := fun ds ρ => Wp (fn.run (d :: ds)) (kCm5 ρ Q)
def kCm3 (d : D) (fn : Fn) (Q : QE) : List Pl → Ro → Prop := fun ps ρ => Wp (toVals ρ ps) (kCm4 d fn Q)
def kCmF (es : List E) (ρ : Ro) (d : D) (Q : QE) : Fn → Prop := fun fn => Wp (evEs Γ gl es ρ) (kCm3 d fn Q)
def kCm2 (f : Nat) (es : List E) (ρ : Ro) (Q : QE) : D → Prop := fun d => Wq (Γ f) (kCmF Γ gl es ρ d Q)
def kCm1 (f : Nat) (es : List E) (Q : QE) : QE := fun p ρ => Wq (getQ ρ p) (kCm2 Γ gl f es ρ Q)
def kBi (b : Bi) (Q : QE) : List Pl → Ro → Prop := fun ps ρ => Wq (bnd1 (getQs ρ ps) (biRun b)) (kTmp ρ Q)
def kBm2 (m : Bm) (d : D) (Q : QE) : List Pl → Ro → Prop := fun ps ρ => Wq (bnd1 (getQs ρ ps) (bmRun m d)) (kTmp ρ Q)
def kBm1 (m : Bm) (es : List E) (ρ : Ro) (Q : QE) : D → Prop := fun d => Wp (evEs Γ gl es ρ) (kBm2 m d Q)
def kBm (m : Bm) (es : List E) (Q : QE) : QE := fun p ρ => Wq (getQ ρ p) (kBm1 Γ gl m es ρ Q)
def kSigns (Q : QE) : QE := fun p ρ => Wq (bnd1 (getQ ρ p) fun d => bnd1 (strD d) fun x => req (decide (x.length ≤ big)) (some (W.own (signs x)))) (kTmp ρ Q)
def kPop2 (i : Nat) (Q : QE) : D → Ro → Prop := fun d ρ => Q (.tmp (.val d)) ρ
def kPop1 (i : Nat) (Q : QE) : QE := fun p ρ1 => Wp (bnd1 (getQ ρ1 p) fun d => bnd1 (intD d) fun k => bnd1 ((ρ1[i]?).join) fun w => bnd1 (ownW w) fun ds => req (decide (0 ≤ k) && decide (k ≤ 1000000)) (bnd1 (ds[k.toNat]?) fun d => some (d, ρ1.set i (some (.own (ds.eraseIdx k.toNat)))))) (kPop2 i Q)
def kPop0 (i : Nat) (e : E) (ρ : Ro) (Q : QE) : List D → Prop := fun _ => Wp (evE Γ gl e ρ) (kPop1 i Q)
def kComp2 (ρ1 : Ro) (own : List Nat) (Q : QE) : List D → Ro → Prop := fun out ρ2 => Q (.tmp (.own out)) (backR ρ1 ρ2 own)
def kComp1 (elt : E) (g : G) (c : E) (own : List Nat) (Q : QE) : List D → Ro → Prop := fun ds ρ1 => clearR ρ1 own = true ∧ Wp (compL own g (fun ρ => tstOf (evE Γ gl c ρ)) (fun ρ => evE Γ gl elt ρ) ds (wipeR ρ1 own) []) (kComp2 ρ1 own Q)
def kStr (Q : QE) : Str → Ro → Prop := fun x ρ => Q (.tmp (.val (.str x))) ρ
abbrev QEs := List Pl → Ro → Prop
def kEs2 (p : Pl) (Q : QEs) : QEs := fun ps ρ => Q (p :: ps) ρ
def kEs1 (es : List E) (Q : QEs) : QE := fun p ρ => Wp (evEs Γ gl es ρ) (kEs2 p Q)
def kSt3 (ds : List D) (Q : QEs) : QEs := fun ps ρ => Q (ds.map (fun d => Pl.tmp (.val d)) ++ ps) ρ
def kSt2 (es : List E) (ρ : Ro) (Q : QEs) : List D → Prop := fun ds => Wp (evEs Γ gl es ρ) (kSt3 ds Q)
def kSt1 (es : List E) (Q : QEs) : QE := fun p ρ => Wq (bnd1 (getQ ρ p) seqD) (kSt2 Γ gl es ρ Q)
def kFs2 (es : List E) (acc : Str) (ρ : Ro) (Q : Str → Ro → Prop) : Str → Prop := fun x => acc.length + x.length ≤ big ∧ Wp (evFs Γ gl es ρ (acc ++ x)) Q
def kFs1 (es : List E) (acc : Str) (Q : Str → Ro → Prop) : QE := fun p ρ => Wq (bnd1 (getQ ρ p) fmtD) (kFs2 Γ gl es acc ρ Q)
def kO2 (ρ : Ro) (Q : Option Int → Ro → Prop) : Int → Prop := fun i => Q (some i) ρ
def kO1 (Q : Option Int → Ro → Prop) : QE := fun p ρ => Wq (bnd1 (getQ ρ p) intD) (kO2 ρ Q)
abbrev QI := List D → Ro → Prop
def kI1 (Q : QI) : QE := fun p ρ => Wp (walkP ρ p) Q
def kIds (ρ : Ro) (Q : QI) : List D → Prop := fun ds => Q ds ρ
def kR1 (Q : QI) : QE := fun p ρ => Wq (bnd1 (getQ ρ p) fun d => bnd1 (intD d) fun n => req (isSm n) (some (rangeD 0 n))) (kIds ρ Q)
def kR3 (p : Pl) (Q : QI) : QE := fun q ρ => Wq (bnd1 (getQ ρ p) fun x => bnd1 (intD x) fun m => bnd1 (getQ ρ q) fun y => bnd1 (intD y) fun n => req (isSm m && isSm n) (some (rangeD m n))) (kIds ρ Q)
def kR2 (b : E) (Q : QI) : QE := fun p ρ => Wp (evE Γ gl b ρ) (kR3 p Q)
def kZ2 (p : Pl) (Q : QI) : QE := fun q ρ => Wp (bnd2 (toVal ρ p) fun x ρ3 => bnd2 (toVal ρ3 q) fun y ρ4 => bnd1 (zip2 x y) fun l => some (l, ρ4)) Q
def kZ1 (b : E) (Q : QI) : QE := fun p ρ => Wp (evE Γ gl b ρ) (kZ2 p Q)
def kEn (Q : QI) : QE := fun p ρ => Wp (bnd2 (toVal ρ p) fun d ρ2 => bnd1 (seqD d) fun ds => some (enumD 0 ds, ρ2)) Q
variable {Γ gl}
@[scoped simp] theorem w_nil (ρ : Ro) (Q : QE) : Wp (evE Γ gl .nil ρ) Q = Q (.tmp (.val (.bl true))) ρ := by simp only [evE_nil, wp_some]
@[scoped simp] theorem w_var (i : Nat) (ρ : Ro) (Q : QE) : Wp (evE Γ gl (.var i) ρ) Q = Wq ((ρ[i]?).join) (kSlot ρ i Q) := by ((try delta kSlot); (try delta kSlot); simp only [evE_var, wp_bnd1, wp_some])
@[scoped simp] theorem w_cst (d : D) (ρ : Ro) (Q : QE) : Wp (evE Γ gl (.cst d) ρ) Q = Q (.tmp (.val d)) ρ := by simp only [evE_cst, wp_some]
@[scoped simp] theorem w_glob (x : Str) (ρ : Ro) (Q : QE) : Wp (evE Γ gl (.glob x) ρ) Q = Wq (gl x) (kVal ρ Q) := by ((try delta kVal); (try delta kVal); simp only [evE_glob, wp_bnd1, wp_some])
@[scoped simp] theorem w_tup (es : List E) (ρ : Ro) (Q : QE) : Wp (evE Γ gl (.tup es) ρ) Q = Wp (evEs Γ gl es ρ) (kTup Q) := by ((try delta kTup); (try delta kTup2); (try delta kTup); (try delta kTup2); simp only [evE_tup, wp_bnd2, wp_req, wp_some, decide_eq_true_eq])
@[scoped simp] theorem w_lst (es : List E) (ρ : Ro) (Q : QE) : Wp (evE Γ gl (.lst es) ρ) Q = Wp (evEs Γ gl es ρ) (kLst Q) := by ((try delta kLst); (try delta kLst2); (try delta kLst); (try delta kLst2); simp only [evE_lst, wp_bnd2, wp_req, wp_some, decide_eq_true_eq])
@[scoped simp] theorem w_bin (o : Op2) (a b : E) (ρ : Ro) (Q : QE) : Wp (evE Γ gl (.bin o a b) ρ) Q = Wp (evE Γ gl a ρ) (kBin1 Γ gl o b Q) := by ((try delta kBin1); (try delta kBin2); (try delta kTmp); (try delta kBin1); (try delta kBin2); (try delta kTmp); simp only [evE_bin, wp_bnd2, wp_bnd1, wq_bnd1, wp_some])
@[scoped simp] theorem w_neg (a : E) (ρ : Ro) (Q : QE) : Wp (evE Γ gl (.neg a) ρ) Q = Wp (evE Γ gl a ρ) (kNeg Q) := by ((try delta kNeg); (try delta kVal); (try delta kNeg); (try delta kVal); simp only [evE_neg, wp_bnd2, wp_bnd1, wq_bnd1, wp_some, wq_some])
@[scoped simp] theorem w_cmp (o : Cm) (a b : E) (ρ : Ro) (Q : QE) : Wp (evE Γ gl (.cmp o a b) ρ) Q = Wp (evE Γ gl a ρ) (kCmp1 Γ gl o b Q) := by ((try delta kCmp1); (try delta kCmp2); (try delta kBl); (try delta kCmp1); (try delta kCmp2); (try delta kBl); simp only [evE_cmp, wp_bnd2, wp_bnd1, wq_bnd1, wp_some])
@[scoped simp] theorem w_chain (o o2 : Cm) (a b c : E) (ρ : Ro) (Q : QE) : Wp (evE Γ gl (.chain o o2 a b c) ρ) Q = Wp (evE Γ gl a ρ) (kCh1 Γ gl o o2 b c Q) := by
  (try delta kCh1); (try delta kCh2); simp only [evE_chain, wp_bnd2, wp_bnd1, wq_bnd1]
  refine congrArg (fun R => Wp _ R) (funext fun p => funext fun ρ1 => congrArg (fun R => Wp _ R) (funext fun q => funext fun ρ2 => congrArg (fun R => Wq _ R) (funext fun x => congrArg (fun R => Wq _ R) (funext fun y => congrArg (fun R => Wq _ R) (funext fun k => ?_)))))
  cases k
  · simp only [kCh3, wp_some]
  · simp only [kCh3]; (try delta kCh4); (try delta kBl); simp only [wp_bnd2, wp_bnd1, wq_bnd1, wp_some]
@[scoped simp] theorem w_tst (r : Option (Pl × Ro)) (R : Bool → Ro → Prop) : Wp (tstOf r) R = Wp r (kTst R) := by ((try delta kTst); (try delta kB); (try delta kTst); (try delta kB); simp only [tstOf_eq, wp_bnd2, wp_bnd1, wq_bnd1, wp_some])
@[scoped simp] theorem w_and (a b : E) (ρ : Ro) (Q : QE) : Wp (evE Γ gl (.and a b) ρ) Q = Wp (evE Γ gl a ρ) (kTst (kAnd Γ gl b Q)) := by
  rw [evE_and, wp_bnd2, w_tst]
  refine congrArg (fun R => Wp _ (kTst R)) (funext fun k => funext fun ρ1 => ?_)
  cases k <;> simp only [kAnd] <;> (try delta kTBl) <;> (try simp only [w_tst, wp_bnd2, wp_some])
@[scoped simp] theorem w_or (a b : E) (ρ : Ro) (Q : QE) : Wp (evE Γ gl (.or a b) ρ) Q = Wp (evE Γ gl a ρ) (kTst (kOr Γ gl b Q)) := by
  rw [evE_or, wp_bnd2, w_tst]
  refine congrArg (fun R => Wp _ (kTst R)) (funext fun k => funext fun ρ1 => ?_)
  cases k <;> simp only [kOr] <;> (try delta kTBl) <;> (try simp only [w_tst, wp_bnd2, wp_some])
@[scoped simp] theorem w_not (a : E) (ρ : Ro) (Q : QE) : Wp (evE Γ gl (.not a) ρ) Q = Wp (evE Γ gl a ρ) (kTst (kNot Q)) := by ((try delta kNot); (try delta kNot); simp only [evE_not, wp_bnd2, w_tst, wp_some])
@[scoped simp] theorem w_ife (c a b : E) (ρ : Ro) (Q : QE) : Wp (evE Γ gl (.ife c a b) ρ) Q = Wp (evE Γ gl c ρ) (kTst (kIfe Γ gl a b Q)) := by
  rw [evE_ife, wp_bnd2, w_tst]
  refine congrArg (fun R => Wp _ (kTst R)) (funext fun k => funext fun ρ1 => ?_)
  cases k <;> simp only [kIfe] <;> (try delta kTBl) <;> (try simp only [w_tst, wp_bnd2, wp_some])
@[scoped simp] theorem w_ix (a b : E) (ρ : Ro) (Q : QE) : Wp (evE Γ gl (.ix a b) ρ) Q = Wp (evE Γ gl a ρ) (kIx1 Γ gl b Q) := by ((try delta kIx1); (try delta kIx2); (try delta kVal); (try delta kIx1); (try delta kIx2); (try delta kVal); simp only [evE_ix, wp_bnd2, wp_bnd1, wq_bnd1, wp_some])
@[scoped simp] theorem w_sl (a lo hi : E) (ρ : Ro) (Q : QE) : Wp (evE Γ gl (.sl a lo hi) ρ) Q = Wp (evE Γ gl a ρ) (kSl1 Γ gl lo hi Q) := by ((try delta kSl1); (try delta kSl2); (try delta kSl3); (try delta kTmp); (try delta kSl1); (try delta kSl2); (try delta kSl3); (try delta kTmp); simp only [evE_sl, wp_bnd2, wp_bnd1, wq_bnd1, wp_some])
@[scoped simp] theorem w_rev (a : E) (ρ : Ro) (Q : QE) : Wp (evE Γ gl (.rev a) ρ) Q = Wp (evE Γ gl a ρ) (kRev Q) := by ((try delta kRev); (try delta kTmp); (try delta kRev); (try delta kTmp); simp only [evE_rev, wp_bnd2, wp_bnd1, wq_bnd1, wp_some])
@[scoped simp] theorem w_fld (c : Str) (f : Nat) (a : E) (ρ : Ro) (Q : QE) : Wp (evE Γ gl (.fld c f a) ρ) Q = Wp (evE Γ gl a ρ) (kFld c f Q) := by ((try delta kFld); (try delta kVal); (try delta kFld); (try delta kVal); simp only [evE_fld, wp_bnd2, wp_bnd1, wq_bnd1, wp_some])
@[scoped simp] theorem w_call (f : Nat) (es : List E) (ρ : Ro) (Q : QE) : Wp (evE Γ gl (.call f es) ρ) Q = Wp (evEs Γ gl es ρ) (kCall1 Γ f Q) := by ((try delta kCall1); (try delta kCall2); (try delta kCall3); (try delta kCall4); (try delta kCall5); (try delta kCall1); (try delta kCall2); (try delta kCall3); (try delta kCall4); (try delta kCall5); simp only [evE_call, wp_bnd2, wp_bnd1, wq_bnd1, wp_req, wp_some])
@[scoped simp] theorem w_callm (f : Nat) (e : E) (es : List E) (ρ : Ro) (Q : QE) : Wp (evE Γ gl (.callm f e es) ρ) Q = Wp (evE Γ gl e ρ) (kCm1 Γ gl f es Q) := by ((try delta kCm1); (try delta kCm2); (try delta kCmF); (try delta kCm3); (try delta kCm4); (try delta kCm5); (try delta kCm1); (try delta kCm2); (try delta kCm3); (try delta kCm4); (try delta kCm5); simp only [evE_callm, wp_bnd2, wp_bnd1, wq_bnd1, wp_req, wp_some])
@[scoped simp] theorem w_bi (b : Bi) (es : List E) (ρ : Ro) (Q : QE) : Wp (evE Γ gl (.bi b es) ρ) Q = Wp (evEs Γ gl es ρ) (kBi b Q) := by ((try delta kBi); (try delta kTmp); (try delta kBi); (try delta kTmp); simp only [evE_bi, wp_bnd2, wp_bnd1, wq_bnd1, wp_some])
@[scoped simp] theorem w_bm (m : Bm) (o : E) (es : List E) (ρ : Ro) (Q : QE) : Wp (evE Γ gl (.bm m o es) ρ) Q = Wp (evE Γ gl o ρ) (kBm Γ gl m es Q) := by ((try delta kBm); (try delta kBm1); (try delta kBm2); (try delta kTmp); (try delta kBm); (try delta kBm1); (try delta kBm2); (try delta kTmp); simp only [evE_bm, wp_bnd2, wp_bnd1, wq_bnd1, wp_some])
@[scoped simp] theorem w_signs (e : E) (ρ : Ro) (Q : QE) : Wp (evE Γ gl (.signs e) ρ) Q = Wp (evE Γ gl e ρ) (kSigns Q) := by ((try delta kSigns); (try delta kTmp); (try delta kSigns); (try delta kTmp); simp only [evE_signs, wp_bnd2, wp_bnd1, wq_bnd1, wp_req, wq_req, wp_some, wq_some])
@[scoped simp] theorem w_popAt (i : Nat) (e : E) (ρ : Ro) (Q : QE) : Wp (evE Γ gl (.popAt i e) ρ) Q = Wq (bnd1 ((ρ[i]?).join) ownW) (kPop0 Γ gl i e ρ Q) := by ((try delta kPop0); (try delta kPop1); (try delta kPop2); (try delta kPop0); (try delta kPop1); (try delta kPop2); simp only [evE_popAt, wp_bnd2, wp_bnd1, wq_bnd1, wp_req, wp_some])
@[scoped simp] theorem w_comp (elt : E) (g : G) (it c : E) (own : List Nat) (ρ : Ro) (Q : QE) : Wp (evE Γ gl (.comp elt g it c own) ρ) Q = Wp (evI Γ gl it ρ) (kComp1 Γ gl elt g c own Q) := by ((try delta kComp1); (try delta kComp2); (try delta kComp1); (try delta kComp2); simp only [evE_comp, wp_bnd2, wp_req, wp_some])
@[scoped simp] theorem w_fstr (es : List E) (ρ : Ro) (Q : QE) : Wp (evE Γ gl (.fstr es) ρ) Q = Wp (evFs Γ gl es ρ Str.empty) (kStr Q) := by ((try delta kStr); (try delta kStr); simp only [evE_fstr, wp_bnd2, wp_some])
@[scoped simp] theorem w_esn (ρ : Ro) (Q : QEs) : Wp (evEs Γ gl [] ρ) Q = Q [] ρ := by simp only [evEs_nil, wp_some]
theorem w_esc (e : E) (es : List E) (ρ : Ro) (Q : QEs) (h : isStarE e = false) : Wp (evEs Γ gl (e :: es) ρ) Q = Wp (evE Γ gl e ρ) (kEs1 Γ gl es Q) := by ((try delta kEs1); (try delta kEs2); (try delta kEs1); (try delta kEs2); simp only [evEs_cns _ _ _ _ _ h, wp_bnd2, wp_some])
@[scoped simp] theorem w_ess (e : E) (es : List E) (ρ : Ro) (Q : QEs) : Wp (evEs Γ gl (.star e :: es) ρ) Q = Wp (evE Γ gl e ρ) (kSt1 Γ gl es Q) := by ((try delta kSt1); (try delta kSt2); (try delta kSt3); (try delta kSt1); (try delta kSt2); (try delta kSt3); simp only [evEs_star, wp_bnd2, wp_bnd1, wq_bnd1, wp_some])
@[scoped simp] theorem w_fsn (ρ : Ro) (acc : Str) (Q : Str → Ro → Prop) : Wp (evFs Γ gl [] ρ acc) Q = Q acc ρ := by simp only [evFs_nil, wp_some]
@[scoped simp] theorem w_fsc (e : E) (es : List E) (ρ : Ro) (acc : Str) (Q : Str → Ro → Prop) : Wp (evFs Γ gl (e :: es) ρ acc) Q = Wp (evE Γ gl e ρ) (kFs1 Γ gl es acc Q) := by ((try delta kFs1); (try delta kFs2); (try delta kFs1); (try delta kFs2); simp only [evFs_cons, wp_bnd2, wp_bnd1, wq_bnd1, wp_req, decide_eq_true_eq])
@[scoped simp] theorem w_on (ρ : Ro) (Q : Option Int → Ro → Prop) : Wp (evO Γ gl .nil ρ) Q = Q none ρ := by simp only [evO_nil, wp_some]
@[scoped simp] theorem w_os (e : E) (ρ : Ro) (Q : Option Int → Ro → Prop) : Wp (evO Γ gl (.seq e) ρ) Q = Wp (evE Γ gl e ρ) (kO1 Q) := by ((try delta kO1); (try delta kO2); (try delta kO1); (try delta kO2); simp only [evO_seq, wp_bnd2, wp_bnd1, wq_bnd1, wp_some])
@[scoped simp] theorem w_is (e : E) (ρ : Ro) (Q : QI) : Wp (evI Γ gl (.seq e) ρ) Q = Wp (evE Γ gl e ρ) (kI1 Q) := by ((try delta kI1); (try delta kI1); simp only [evI_seq, wp_bnd2])
@[scoped simp] theorem w_ir1 (a : E) (ρ : Ro) (Q : QI) : Wp (evI Γ gl (.rng1 a) ρ) Q = Wp (evE Γ gl a ρ) (kR1 Q) := by ((try delta kR1); (try delta kIds); (try delta kR1); (try delta kIds); simp only [evI_rng1, wp_bnd2, wp_bnd1, wq_bnd1, wp_req, wq_req, wp_some, wq_some])
@[scoped simp] theorem w_ir2 (a b : E) (ρ : Ro) (Q : QI) : Wp (evI Γ gl (.rng2 a b) ρ) Q = Wp (evE Γ gl a ρ) (kR2 Γ gl b Q) := by ((try delta kR2); (try delta kR3); (try delta kIds); (try delta kR2); (try delta kR3); (try delta kIds); simp only [evI_rng2, wp_bnd2, wp_bnd1, wq_bnd1, wp_req, wq_req, wp_some, wq_some])
@[scoped simp] theorem w_iz (a b : E) (ρ : Ro) (Q : QI) : Wp (evI Γ gl (.zip a b) ρ) Q = Wp (evE Γ gl a ρ) (kZ1 Γ gl b Q) := by ((try delta kZ1); (try delta kZ2); (try delta kZ1); (try delta kZ2); simp only [evI_zip, wp_bnd2])
@[scoped simp] theorem w_ie (a : E) (ρ : Ro) (Q : QI) : Wp (evI Γ gl (.enum a) ρ) Q = Wp (evE Γ gl a ρ) (kEn Q) := by ((try delta kEn); (try delta kEn); simp only [evI_enum, wp_bnd2])
end

/-! ### statements -/
section
variable (Γ : Nat → Option Fn) (gl : Str → Option D)
abbrev QS := Out → Ro → Prop
def kNx (Q : QS) : Ro → Prop := fun ρ => Q .nx ρ
def kAsg (g : G) (Q : QS) : QE := fun p ρ => Wq (put g p ρ) (kNx Q)
def kAsgS (i j : Nat) (Q : QS) : QE := fun p ρ => Wq (bnd1 (getQ ρ p) fun d => bnd1 (lstD d) fun l => req (decide (l.length ≤ 10000)) (match l with
    | x :: r => some ((ρ.set i (some (.val x))).set j (some (.own r)))
    | [] => none)) (kNx Q)
def kPar2 (i j : Nat) (p : Pl) (Q : QS) : QE := fun q ρ => Wq (bnd2 (give ρ p) fun v ρ3 => bnd2 (give ρ3 q) fun w ρ4 => some ((ρ4.set i (some v)).set j (some w))) (kNx Q)
def kPar1 (i j : Nat) (b : E) (Q : QS) : QE := fun p ρ => Wp (evE Γ gl b ρ) (kPar2 i j p Q)
def kSet3 (i : Nat) (d : D) (Q : QS) : QE := fun q ρ => Wq (bnd1 (getQ ρ q) fun x => bnd1 (intD x) fun k => bnd1 ((ρ[i]?).join) fun w => bnd1 (ownW w) fun ds =>
      req (decide (0 ≤ k) && decide (k.toNat < ds.length)) (some (ρ.set i (some (.own (ds.set k.toNat d)))))) (kNx Q)
def kSet2 (i : Nat) (ie : E) (Q : QS) : D → Ro → Prop := fun d ρ => Wp (evE Γ gl ie ρ) (kSet3 i d Q)
def kSet1 (i : Nat) (ie : E) (Q : QS) : QE := fun p ρ => Wp (toVal ρ p) (kSet2 Γ gl i ie Q)
def kSet0 (i : Nat) (ie e : E) (ρ : Ro) (Q : QS) : List D → Prop := fun _ => Wp (evE Γ gl e ρ) (kSet1 Γ gl i ie Q)
def kExp (Q : QS) : QE := fun _ ρ => Q .nx ρ
def kApp1 (i : Nat) (Q : QS) : QE := fun p ρ => Wq (bnd2 (toVal ρ p) fun d ρ2 => bnd1 ((ρ2[i]?).join) fun w => bnd1 (ownW w) fun ds => req (decide (ds.length < big)) (some (ρ2.set i (some (.own (ds ++ [d])))))) (kNx Q)
def kApp0 (i : Nat) (e : E) (ρ : Ro) (Q : QS) : List D → Prop := fun _ => Wp (evE Γ gl e ρ) (kApp1 i Q)
def kExt1 (i : Nat) (Q : QS) : QE := fun p ρ => Wq (bnd1 (getC ρ p) fun x => bnd1 (lstD x) fun es => bnd1 ((ρ[i]?).join) fun w => bnd1 (ownW w) fun ds => req (decide (ds.length + es.length ≤ big)) (some (ρ.set i (some (.own (ds ++ es)))))) (kNx Q)
def kExt0 (i : Nat) (e : E) (ρ : Ro) (Q : QS) : List D → Prop := fun _ => Wp (evE Γ gl e ρ) (kExt1 i Q)
def kIte (t f : List S) (Q : QS) : Bool → Ro → Prop := fun b ρ => match b with
  | true => Wp (evSs Γ gl t ρ) Q
  | false => Wp (evSs Γ gl f ρ) Q
def kFor (g : G) (b : List S) (Q : QS) : QI := fun ds ρ => Wp (forL g (fun ρ => evSs Γ gl b ρ) ds ρ) Q
def kRet2 (Q : QS) : W → Ro → Prop := fun w ρ => Q (.ret w) ρ
def kRet (Q : QS) : QE := fun p ρ => Wp (give ρ p) (kRet2 Q)
def kSeq (r : List S) (Q : QS) : QS := fun o ρ => match o with
  | .nx => Wp (evSs Γ gl r ρ) Q
  | .ret w => Q (.ret w) ρ
  | .brk => Q .brk ρ
  | .cont => Q .cont ρ
variable {Γ gl}
@[scoped simp] theorem w_asg (g : G) (e : E) (ρ : Ro) (Q : QS) : Wp (evS Γ gl (.asg g e) ρ) Q = Wp (evE Γ gl e ρ) (kAsg g Q) := by ((try delta kAsg); (try delta kNx); (try delta kAsg); (try delta kNx); simp only [evS_asg, wp_bnd2, wp_bnd1, wp_some])
@[scoped simp] theorem w_asgS (i j : Nat) (e : E) (ρ : Ro) (Q : QS) : Wp (evS Γ gl (.asgS i j e) ρ) Q = Wp (evE Γ gl e ρ) (kAsgS i j Q) := by
  rw [evS_asgS, wp_bnd2]
  congr 1
  funext p ρ1
  ((try delta kAsgS); (try delta kAsgS); simp only [wp_bnd1, wq_bnd1, wp_req, wq_req])
  congr 1
  funext d
  congr 1
  funext l
  cases l with
  | nil => simp only [Wp, Wq]; simp
  | cons x r => dsimp only; rw [wp_some, wq_some]; rfl
@[scoped simp] theorem w_par (i j : Nat) (a b : E) (ρ : Ro) (Q : QS) : Wp (evS Γ gl (.par i j a b) ρ) Q = Wp (evE Γ gl a ρ) (kPar1 Γ gl i j b Q) := by ((try delta kPar1); (try delta kPar2); (try delta kNx); (try delta kPar1); (try delta kPar2); (try delta kNx); simp only [evS_par, wp_bnd2, wq_bnd2, wp_some, wq_some])
@[scoped simp] theorem w_setix (i : Nat) (ie e : E) (ρ : Ro) (Q : QS) : Wp (evS Γ gl (.setix i ie e) ρ) Q = Wq (bnd1 ((ρ[i]?).join) ownW) (kSet0 Γ gl i ie e ρ Q) := by ((try delta kSet0); (try delta kSet1); (try delta kSet2); (try delta kSet3); (try delta kNx); (try delta kSet0); (try delta kSet1); (try delta kSet2); (try delta kSet3); (try delta kNx); simp only [evS_setix, wp_bnd2, wp_bnd1, wq_bnd1, wp_req, wq_req, wp_some, wq_some])
@[scoped simp] theorem w_expr (e : E) (ρ : Ro) (Q : QS) : Wp (evS Γ gl (.expr e) ρ) Q = Wp (evE Γ gl e ρ) (kExp Q) := by ((try delta kExp); (try delta kExp); simp only [evS_expr, wp_bnd2, wp_some])
@[scoped simp] theorem w_app (i : Nat) (e : E) (ρ : Ro) (Q : QS) : Wp (evS Γ gl (.app i e) ρ) Q = Wq (bnd1 ((ρ[i]?).join) ownW) (kApp0 Γ gl i e ρ Q) := by ((try delta kApp0); (try delta kApp1); (try delta kNx); (try delta kApp0); (try delta kApp1); (try delta kNx); simp only [evS_app, wp_bnd2, wq_bnd2, wp_bnd1, wq_bnd1, wp_req, wq_req, wp_some, wq_some])
@[scoped simp] theorem w_ext (i : Nat) (e : E) (ρ : Ro) (Q : QS) : Wp (evS Γ gl (.ext i e) ρ) Q = Wq (bnd1 ((ρ[i]?).join) ownW) (kExt0 Γ gl i e ρ Q) := by ((try delta kExt0); (try delta kExt1); (try delta kNx); (try delta kExt0); (try delta kExt1); (try delta kNx); simp only [evS_ext, wp_bnd2, wq_bnd2, wp_bnd1, wq_bnd1, wp_req, wq_req, wp_some, wq_some])
@[scoped simp] theorem w_ite (c : E) (t f : List S) (ρ : Ro) (Q : QS) : Wp (evS Γ gl (.ite c t f) ρ) Q = Wp (evE Γ gl c ρ) (kTst (kIte Γ gl t f Q)) := by
  rw [evS_ite, wp_bnd2, w_tst]
  refine congrArg (fun R => Wp _ (kTst R)) (funext fun k => funext fun ρ1 => ?_)
  cases k <;> simp only [kIte] <;> (try delta kTBl) <;> (try simp only [w_tst, wp_bnd2, wp_some])
@[scoped simp] theorem w_for (g : G) (it : E) (b : List S) (ρ : Ro) (Q : QS) : Wp (evS Γ gl (.for_ g it b) ρ) Q = Wp (evI Γ gl it ρ) (kFor Γ gl g b Q) := by ((try delta kFor); (try delta kFor); simp only [evS_for, wp_bnd2])
@[scoped simp] theorem w_while (n : Nat) (c : E) (b : List S) (ρ : Ro) (Q : QS) : Wp (evS Γ gl (.while_ n c b) ρ) Q = Wp (whileL (fun ρ => tstOf (evE Γ gl c ρ)) (fun ρ => evSs Γ gl b ρ) n ρ) Q := by rw [evS_while]
@[scoped simp] theorem w_ret (e : E) (ρ : Ro) (Q : QS) : Wp (evS Γ gl (.ret e) ρ) Q = Wp (evE Γ gl e ρ) (kRet Q) := by ((try delta kRet); (try delta kRet2); (try delta kRet); (try delta kRet2); simp only [evS_ret, wp_bnd2, wp_some])
@[scoped simp] theorem w_retN (ρ : Ro) (Q : QS) : Wp (evS Γ gl .retN ρ) Q = Q (.ret (.val .non)) ρ := by simp only [evS_retN, wp_some]
@[scoped simp] theorem w_pass (ρ : Ro) (Q : QS) : Wp (evS Γ gl .pass ρ) Q = Q .nx ρ := by simp only [evS_pass, wp_some]
@[scoped simp] theorem w_brk (ρ : Ro) (Q : QS) : Wp (evS Γ gl .brk ρ) Q = Q .brk ρ := by simp only [evS_brk, wp_some]
@[scoped simp] theorem w_cont (ρ : Ro) (Q : QS) : Wp (evS Γ gl .cont ρ) Q = Q .cont ρ := by simp only [evS_cont, wp_some]
@[scoped simp] theorem w_try (b : List S) (ρ : Ro) (Q : QS) : Wp (evS Γ gl (.try_ b) ρ) Q = Wp (evSs Γ gl b ρ) Q := by rw [evS_try]
@[scoped simp] theorem w_ssn (ρ : Ro) (Q : QS) : Wp (evSs Γ gl [] ρ) Q = Q .nx ρ := by simp only [evSs_nil, wp_some]
@[scoped simp] theorem w_ssc (s : S) (r : List S) (ρ : Ro) (Q : QS) : Wp (evSs Γ gl (s :: r) ρ) Q = Wp (evS Γ gl s ρ) (kSeq Γ gl r Q) := by
  rw [evSs_cons, wp_bnd2]
  refine congrArg (fun R => Wp _ R) (funext fun o => funext fun ρ1 => ?_)
  cases o <;> simp only [kSeq, wp_some]
end
section
variable (Γ : Nat → Option Fn) (gl : Str → Option D)
abbrev QR := W → List (List D) → Prop
def kEnd (ms : List Mode) (Q : QR) : QS := fun o ρ => Wp (bnd1 (outW o) fun w => bnd1 (outs0 ms ρ) fun l => some (w, l)) Q
def kRun (ms : List Mode) (n : Nat) (body : List S) (Q : QR) : Ro → Prop := fun ρ0 => Wp (evSs Γ gl body (ρ0 ++ List.replicate (n - ms.length) none)) (kEnd ms Q)
variable {Γ gl}
@[scoped simp] theorem w_run (ms : List Mode) (n : Nat) (body : List S) (ds : List D) (Q : QR) : Wp (runFn Γ gl ms n body ds) Q = Wq (args0 ms ds) (kRun Γ gl ms n body Q) := by ((try delta kRun); (try delta kEnd); (try delta kRun); (try delta kEnd); simp only [runFn_eq, wp_bnd2, wp_bnd1])
end

/-! ### loops -/
/-- one turn of a comprehension -/
def turn (own : List Nat) (g : G) (tst : Ro → Option (Bool × Ro)) (elt : Ro → Option (Pl × Ro)) (d : D) (ρ : Ro) : Option (Option D × Ro) :=
  bnd1 (asg g d ρ) fun ρ1 => bnd2 (tst ρ1) fun b ρ2 => match b with
    | true => bnd2 (elt ρ2) fun p ρ3 => bnd2 (toVal ρ3 p) fun x ρ4 => some (some x, wipeR ρ4 own)
    | false => some (none, wipeR ρ2 own)
theorem compL_cons {own : List Nat} {g : G} {tst : Ro → Option (Bool × Ro)} {elt : Ro → Option (Pl × Ro)} (d : D) (ds : List D) (ρ : Ro) (acc : List D) : compL own g tst elt (d :: ds) ρ acc = bnd2 (turn own g tst elt d ρ) fun o ρ' => match o with
    | some x => req (decide (acc.length < big)) (compL own g tst elt ds ρ' (acc ++ [x]))
    | none => compL own g tst elt ds ρ' acc := by
  conv => lhs; unfold compL
  unfold turn
  cases asg g d ρ with
  | none => rfl
  | some ρ1 =>
    simp only [bnd1_some]
    cases tst ρ1 with
    | none => rfl
    | some q =>
      obtain ⟨b, ρ2⟩ := q
      simp only [bnd2_some]
      cases b with
      | false => rfl
      | true =>
        dsimp only
        cases elt ρ2 with
        | none => rfl
        | some q =>
          obtain ⟨p, ρ3⟩ := q
          simp only [bnd2_some]
          cases toVal ρ3 p with
          | none => rfl
          | some q => rfl
theorem wp_comp_inv {own : List Nat} {g : G} {tst : Ro → Option (Bool × Ro)} {elt : Ro → Option (Pl × Ro)} {Q : List D → Ro → Prop} (I : List D → Ro → List D → Prop)
    (step : ∀ d r ρ acc, I (d :: r) ρ acc → acc.length < big ∧ Wp (turn own g tst elt d ρ) fun o ρ' => I r ρ' (match o with | some x => acc ++ [x] | none => acc)) :
    ∀ {ds : List D} {ρ : Ro} {acc : List D}, I ds ρ acc → (∀ acc' ρ', I [] ρ' acc' → Q acc' ρ') → Wp (compL own g tst elt ds ρ acc) Q
  | [], ρ, acc, h, q => ⟨acc, ρ, rfl, q _ _ h⟩
  | d :: ds, ρ, acc, h, q => by
    obtain ⟨hl, o, ρ', e, h'⟩ := step d ds ρ acc h
    rw [compL_cons, e, bnd2_some]
    cases o with
    | some x =>
      dsimp only
      rw [wp_req]
      exact ⟨decide_eq_true hl, wp_comp_inv I step h' q⟩
    | none => exact wp_comp_inv I step h' q
theorem wp_comp {own : List Nat} {g : G} {tst : Ro → Option (Bool × Ro)} {elt : Ro → Option (Pl × Ro)} {Q : List D → Ro → Prop} {α : Type} (c : α → D) (f : α → Option D) {ρ : Ro} :
    ∀ {l : List α} {acc : List D}, (∀ a ∈ l, Wp (turn own g tst elt (c a) ρ) fun o ρ' => o = f a ∧ ρ' = ρ) → acc.length + l.length ≤ big → Q (acc ++ l.filterMap f) ρ → Wp (compL own g tst elt (l.map c) ρ acc) Q
  | [], acc, _, _, q => ⟨acc, ρ, rfl, by simpa using q⟩
  | a :: l, acc, h, hl, q => by
    obtain ⟨o, ρ', e, ho, hρ⟩ := h a (List.mem_cons_self ..)
    subst hρ
    rw [List.map_cons, compL_cons, e, bnd2_some]
    rw [List.length_cons] at hl
    cases o with
    | some x =>
      dsimp only
      rw [wp_req]
      refine ⟨decide_eq_true (by omega), wp_comp c f (fun b hb => h b (List.mem_cons_of_mem _ hb)) (by rw [List.length_append, List.length_singleton]; omega) ?_⟩
      rw [List.filterMap_cons, ← ho] at q
      simpa using q
    | none =>
      refine wp_comp c f (fun b hb => h b (List.mem_cons_of_mem _ hb)) (by omega) ?_
      rw [List.filterMap_cons, ← ho] at q
      simpa using q
/-- a comprehension without a test, without effects -/
theorem wp_map {own : List Nat} {g : G} {tst : Ro → Option (Bool × Ro)} {elt : Ro → Option (Pl × Ro)} {Q : List D → Ro → Prop} {α : Type} (c : α → D) (f : α → D) {ρ : Ro} {l : List α}
    (h : ∀ a ∈ l, Wp (turn own g tst elt (c a) ρ) fun o ρ' => o = some (f a) ∧ ρ' = ρ) (hl : l.length ≤ big) (q : Q (l.map f) ρ) : Wp (compL own g tst elt (l.map c) ρ []) Q :=
  wp_comp c (fun a => some (f a)) h (by simpa using hl) (by simpa using q)
theorem wp_mapD {own : List Nat} {g : G} {tst : Ro → Option (Bool × Ro)} {elt : Ro → Option (Pl × Ro)} {Q : List D → Ro → Prop} (f : D → D) {ρ : Ro} {l : List D}
    (h : ∀ a ∈ l, Wp (turn own g tst elt a ρ) fun o ρ' => o = some (f a) ∧ ρ' = ρ) (hl : l.length ≤ big) (q : Q (l.map f) ρ) : Wp (compL own g tst elt l ρ []) Q := by
  have z := wp_map (own := own) (g := g) (tst := tst) (elt := elt) (Q := Q) (c := id) f (ρ := ρ) (l := l) h hl q
  simpa using z
theorem wp_for {g : G} {body : Ro → Option (Out × Ro)} {Q : Out → Ro → Prop} (I : List D → Ro → Prop) (step : ∀ d r ρ, I (d :: r) ρ → Wp (bnd1 (asg g d ρ) body) fun o ρ' => o = .nx ∧ I r ρ') :
    ∀ {ds : List D} {ρ : Ro}, I ds ρ → (∀ ρ', I [] ρ' → Q .nx ρ') → Wp (forL g body ds ρ) Q
  | [], ρ, h, q => ⟨_, ρ, rfl, q _ h⟩
  | d :: ds, ρ, h, q => by
    obtain ⟨o, ρ', e, ho, h'⟩ := step d ds ρ h
    subst ho
    obtain ⟨ρ1, e1, e2⟩ := bnd1_of e
    unfold forL
    rw [e1, bnd1_some, e2, bnd2_some]
    exact wp_for I step h' q
theorem wp_while {c : Ro → Option (Bool × Ro)} {body : Ro → Option (Out × Ro)} {Q : Out → Ro → Prop} (I : Nat → Ro → Prop) (step : ∀ k ρ, I k ρ → Wp (c ρ) fun b ρ1 => match b with
      | false => Q .nx ρ1
      | true => Wp (body ρ1) fun o ρ2 => o = .nx ∧ ∃ j, j < k ∧ I j ρ2) : ∀ {n k : Nat} {ρ : Ro}, k < n → I k ρ → Wp (whileL c body n ρ) Q
  | 0, _, _, hk, _ => absurd hk (Nat.not_lt_zero _)
  | n + 1, k, ρ, hk, h => by
    obtain ⟨b, ρ1, e, h1⟩ := step k ρ h
    unfold whileL
    rw [e, bnd2_some]
    cases b with
    | false => exact ⟨_, _, rfl, h1⟩
    | true =>
      obtain ⟨o, ρ2, e2, ho, j, hj, h2⟩ := h1
      subst ho
      dsimp only
      rw [e2, bnd2_some]
      exact wp_while I step (by omega) h2

section
variable (Γ : Nat → Option Fn) (gl : Str → Option D)
abbrev QT := Option D → Ro → Prop
def kT5 (own : List Nat) (Q : QT) : D → Ro → Prop := fun x ρ => Q (some x) (wipeR ρ own)
def kT4 (own : List Nat) (Q : QT) : QE := fun p ρ => Wp (toVal ρ p) (kT5 own Q)
def kT3 (own : List Nat) (elt : E) (Q : QT) : Bool → Ro → Prop := fun b ρ => match b with
  | true => Wp (evE Γ gl elt ρ) (kT4 own Q)
  | false => Q none (wipeR ρ own)
def kT1 (own : List Nat) (c elt : E) (Q : QT) : Ro → Prop := fun ρ => Wp (evE Γ gl c ρ) (kTst (kT3 Γ gl own elt Q))
def kBody (b : List S) (Q : QS) : Ro → Prop := fun ρ => Wp (evSs Γ gl b ρ) Q
variable {Γ gl}
@[scoped simp] theorem w_turn (own : List Nat) (g : G) (c elt : E) (d : D) (ρ : Ro) (Q : QT) : Wp (turn own g (fun ρ => tstOf (evE Γ gl c ρ)) (fun ρ => evE Γ gl elt ρ) d ρ) Q = Wq (asg g d ρ) (kT1 Γ gl own c elt Q) := by
  unfold turn
  rw [wp_bnd1]
  refine congrArg (fun R => Wq _ R) (funext fun ρ1 => ?_)
  rw [wp_bnd2, w_tst]
  (try delta kT1)
  refine congrArg (fun R => Wp _ (kTst R)) (funext fun k => funext fun ρ2 => ?_)
  cases k <;> simp only [kT3] <;> (try delta kT4) <;> (try delta kT5) <;> (try simp only [wp_bnd2, wp_some])
@[scoped simp] theorem w_body (g : G) (b : List S) (d : D) (ρ : Ro) (Q : QS) : Wp (bnd1 (asg g d ρ) fun ρ => evSs Γ gl b ρ) Q = Wq (asg g d ρ) (kBody Γ gl b Q) := by
  rw [wp_bnd1]
  rfl
end

/-! ### built-ins -/
@[scoped simp] theorem len_tup (ds : List D) : biRun .len [.tup ds] = some (.val (.int ds.length)) := rfl
@[scoped simp] theorem len_lst (ds : List D) : biRun .len [.lst ds] = some (.val (.int ds.length)) := rfl
@[scoped simp] theorem len_str (x : Str) : biRun .len [.str x] = req (decide (x.length ≤ big)) (some (.val (.int x.length))) := rfl
@[scoped simp] theorem tuple_tup (ds : List D) : biRun .tuple [.tup ds] = some (.val (.tup ds)) := rfl
@[scoped simp] theorem tuple_lst (ds : List D) : biRun .tuple [.lst ds] = some (.val (.tup ds)) := rfl
@[scoped simp] theorem list_tup (ds : List D) : biRun .list [.tup ds] = some (.own ds) := rfl
@[scoped simp] theorem list_lst (ds : List D) : biRun .list [.lst ds] = some (.own ds) := rfl
@[scoped simp] theorem all_lst (ds : List D) : biRun .all [.lst ds] = bnd1 (boolsD ds) fun l => some (.val (.bl (l.all id))) := rfl
@[scoped simp] theorem any_lst (ds : List D) : biRun .any [.lst ds] = bnd1 (boolsD ds) fun l => some (.val (.bl (l.any id))) := rfl
@[scoped simp] theorem str_int (i : Int) : biRun .str [.int i] = req (decide (i.natAbs < 1000000)) (some (.val (.str (intText i)))) := rfl
@[scoped simp] theorem repr_1 (d : D) : biRun .repr [d] = bnd1 (shownD d) fun x => some (.val (.str x)) := rfl
@[scoped simp] theorem max2_int (a b : Int) : biRun .max2 [.int a, .int b] = some (.val (.int (if b > a then b else a))) := rfl
@[scoped simp] theorem min2_int (a b : Int) : biRun .min2 [.int a, .int b] = some (.val (.int (if b < a then b else a))) := rfl
@[scoped simp] theorem listRange_int (n : Int) : biRun .listRange [.int n] = req (decide (-1000000 ≤ n) && decide (n ≤ 1000000)) (some (.own (rangeD 0 n))) := rfl
@[scoped simp] theorem tupleRange_int (n : Int) : biRun .tupleRange [.int n] = req (decide (-1000000 ≤ n) && decide (n ≤ 1000000)) (some (.val (.tup (rangeD 0 n)))) := rfl
@[scoped simp] theorem isInt_1 (d : D) : biRun .isInt [d] = bnd1 (tyD d) fun t => some (.val (.bl t.1)) := rfl
@[scoped simp] theorem isBool_1 (d : D) : biRun .isBool [d] = bnd1 (tyD d) fun t => some (.val (.bl t.2.1)) := rfl
@[scoped simp] theorem isStr_1 (d : D) : biRun .isStr [d] = bnd1 (tyD d) fun t => some (.val (.bl t.2.2.1)) := rfl
@[scoped simp] theorem isTuple_1 (d : D) : biRun .isTuple [d] = bnd1 (tyD d) fun t => some (.val (.bl t.2.2.2)) := rfl
@[scoped simp] theorem ty_non : tyD .non = some (false, false, false, false) := rfl
@[scoped simp] theorem ty_bl (b : Bool) : tyD (.bl b) = some (true, true, false, false) := rfl
@[scoped simp] theorem ty_int (i : Int) : tyD (.int i) = some (true, false, false, false) := rfl
@[scoped simp] theorem ty_str (x : Str) : tyD (.str x) = some (false, false, true, false) := rfl
@[scoped simp] theorem ty_tup (ds : List D) : tyD (.tup ds) = some (false, false, false, true) := rfl
@[scoped simp] theorem isIns_ins (c c' : Str) (ds : List D) : biRun (.isIns c) [.ins c' ds] = req (decide (c' = c)) (some (.val (.bl true))) := rfl
@[scoped simp] theorem kget_str (n : Str) (t : List (Str × Int)) (x : Str) (e : Int) : biRun (.kget n t) [.str x, .int e] = some (.val (.int ((t.lookup x).getD e))) := rfl
@[scoped simp] theorem lenSet_tup (ds : List D) : biRun .lenSet [.tup ds] = bnd1 (intsD ds) fun ns => req (decide (ns.length < 1000)) (some (.val (.int (dedup ns).length))) := rfl
@[scoped simp] theorem dictOf_tup (ps : List D) : biRun .dictOf [.tup ps] = bnd2 (pairsD ps) fun ks ds => req (nodupI ks && decide (ks.length ≤ 1000)) (some (.val (.dic ks ds))) := rfl
@[scoped simp] theorem join_str (x : Str) (ds : List D) : bmRun .join (.str x) [.lst ds] = bnd1 (strsD ds) fun ys => req (decide ((ys.map (·.length)).sum + ys.length * x.length ≤ big)) (some (.val (.str (Txt.join x ys)))) := rfl
@[scoped simp] theorem split_str (a b : Str) : bmRun .split (.str a) [.str b] = req (decide (0 < b.length) && decide (a.length ≤ big)) (some (.own ((Txt.split a b).map .str))) := rfl
@[scoped simp] theorem starts_str (a b : Str) : bmRun .startswith (.str a) [.str b] = some (.val (.bl (Txt.startswith a b))) := rfl
@[scoped simp] theorem ends_str (a b : Str) : bmRun .endswith (.str a) [.str b] = some (.val (.bl (Txt.endswith a b))) := rfl
@[scoped simp] theorem get_dic (ks : List Int) (ds : List D) (k : Int) (e : D) : bmRun .get (.dic ks ds) [.int k, e] = req (plainD e) (some (.val ((dicAt ks ds k).getD e))) := rfl
@[scoped simp] theorem plainD_int (i : Int) : plainD (.int i) = true := rfl
@[scoped simp] theorem fld_ins (c c' : Str) (f : Nat) (ds : List D) : fldD c f (.ins c' ds) = if c' = c then ds[f]? else none := rfl
@[scoped simp] theorem rev_tup (ds : List D) : revW (.tup ds) = some (.val (.tup ds.reverse)) := rfl
@[scoped simp] theorem rev_lst (ds : List D) : revW (.lst ds) = some (.own ds.reverse) := rfl
@[scoped simp] theorem fmt_str (x : Str) : fmtD (.str x) = if x.length ≤ big then some x else none := rfl
@[scoped simp] theorem fmt_int (i : Int) : fmtD (.int i) = if i.natAbs < 1000000 then some (intText i) else none := rfl
@[scoped simp] theorem ix_tup (ds : List D) (i : Int) : ixD (.tup ds) (.int i) = atI ds i := rfl
@[scoped simp] theorem ix_lst (ds : List D) (i : Int) : ixD (.lst ds) (.int i) = atI ds i := rfl
@[scoped simp] theorem sl_tup (ds : List D) (a b : Option Int) : slD (.tup ds) a b = some (.val (.tup (cutD ds a b))) := rfl
@[scoped simp] theorem sl_lst (ds : List D) (a b : Option Int) : slD (.lst ds) a b = some (.own (cutD ds a b)) := rfl
@[scoped simp] theorem sl_str (x : Str) (a b : Option Int) : slD (.str x) a b = if x.length ≤ big then some (.val (.str (Txt.slice x a b))) else none := rfl
@[scoped simp] theorem zip2_tup (a b : List D) : zip2 (.tup a) (.tup b) = some (zipD a b) := rfl
@[scoped simp] theorem zip2_lst (a b : List D) : zip2 (.lst a) (.lst b) = some (zipD a b) := rfl
@[scoped simp] theorem add_int (a b : Int) : bin2 .add (.int a) (.int b) = some (.val (.int (a + b))) := rfl
@[scoped simp] theorem sub_int (a b : Int) : bin2 .sub (.int a) (.int b) = some (.val (.int (a - b))) := rfl
@[scoped simp] theorem add_str (a b : Str) : bin2 .add (.str a) (.str b) = if a.length + b.length ≤ big then some (.val (.str (a ++ b))) else none := rfl
@[scoped simp] theorem add_tup (a b : List D) : bin2 .add (.tup a) (.tup b) = if a.length + b.length ≤ big then some (.val (.tup (a ++ b))) else none := rfl
@[scoped simp] theorem add_lst (a b : List D) : bin2 .add (.lst a) (.lst b) = if a.length + b.length ≤ big then some (.own (a ++ b)) else none := rfl
theorem mul_int (a b : Int) : bin2 .mul (.int a) (.int b) = if (decide (-(2 ^ 64) < a) && decide (a < 2 ^ 64)) || (decide (-(2 ^ 64) < b) && decide (b < 2 ^ 64)) then some (.val (.int (a * b))) else none := rfl
theorem mul_a {a b : Int} (h0 : 0 ≤ a) (h1 : a < 18446744073709551616) : bin2 .mul (.int a) (.int b) = some (.val (.int (a * b))) := by
  have h2 : -(2 ^ 64) < a := by omega
  have h3 : a < 2 ^ 64 := by omega
  rw [mul_int, decide_eq_true h2, decide_eq_true h3]
  rfl
@[scoped simp] theorem fdiv_int (a b : Int) : bin2 .fdiv (.int a) (.int b) = if 0 < b ∧ b < 1073741824 then some (.val (.int (a / b))) else none := rfl
@[scoped simp] theorem mod_int (a b : Int) : bin2 .mod (.int a) (.int b) = if 0 < b then some (.val (.int (a % b))) else none := rfl
@[scoped simp] theorem pow_int (a b : Int) : bin2 .pow (.int a) (.int b) = if 0 ≤ b ∧ b ≤ 1000 ∧ a.natAbs < 1000 then some (.val (.int (a ^ b.toNat))) else none := rfl
@[scoped simp] theorem eq_cmp (a b : D) : cmp2 .eq a b = eqD a b := by cases a <;> cases b <;> rfl
@[scoped simp] theorem ne_cmp (a b : D) : cmp2 .ne a b = (eqD a b).map not := by cases a <;> cases b <;> rfl
@[scoped simp] theorem lt_int (a b : Int) : cmp2 .lt (.int a) (.int b) = some (decide (a < b)) := rfl
@[scoped simp] theorem le_int (a b : Int) : cmp2 .le (.int a) (.int b) = some (decide (a ≤ b)) := rfl
@[scoped simp] theorem gt_int (a b : Int) : cmp2 .gt (.int a) (.int b) = some (decide (b < a)) := rfl
@[scoped simp] theorem ge_int (a b : Int) : cmp2 .ge (.int a) (.int b) = some (decide (b ≤ a)) := rfl
@[scoped simp] theorem in_tup (a : D) (b : List D) : cmp2 .isin a (.tup b) = inD a b := by cases a <;> rfl
@[scoped simp] theorem in_lst (a : D) (b : List D) : cmp2 .isin a (.lst b) = inD a b := by cases a <;> rfl
@[scoped simp] theorem notin_tup (a : D) (b : List D) : cmp2 .notin a (.tup b) = (inD a b).map not := by cases a <;> rfl
@[scoped simp] theorem notin_lst (a : D) (b : List D) : cmp2 .notin a (.lst b) = (inD a b).map not := by cases a <;> rfl
@[scoped simp] theorem intsD_map (l : List Int) : intsD (l.map D.int) = some l := by
  induction l with
  | nil => rfl
  | cons x l ih => rw [List.map_cons]; unfold intsD; rw [ih]
@[scoped simp] theorem boolsD_map {α : Type} (p : α → Bool) (l : List α) : boolsD (l.map fun a => D.bl (p a)) = some (l.map p) := by
  induction l with
  | nil => rfl
  | cons x l ih => rw [List.map_cons]; unfold boolsD; rw [ih]; rfl
@[scoped simp] theorem strsD_map {α : Type} (p : α → Str) (l : List α) : strsD (l.map fun a => D.str (p a)) = some (l.map p) := by
  induction l with
  | nil => rfl
  | cons x l ih => rw [List.map_cons]; unfold strsD; rw [ih]; rfl
@[scoped simp] theorem strsD_map' (l : List Str) : strsD (l.map D.str) = some l := by simpa using strsD_map id l
@[scoped simp] theorem lt_tup (a b : List Int) : cmp2 .lt (.tup (a.map D.int)) (.tup (b.map D.int)) = some (HT.lexLt a b) := by
  show (match intsD (a.map D.int), intsD (b.map D.int) with | some x, some y => some (HT.lexLt x y) | _, _ => none) = _
  rw [intsD_map, intsD_map]

/-! ### equal data -/
mutual
/-- data of ints, texts, None -/
def pln : D → Bool
  | .int _ => true
  | .non => true
  | .str x => PyData.strOk x
  | .tup ds => plns ds
  | .lst ds => plns ds
  | _ => false
def plns : List D → Bool
  | [] => true
  | d :: r => pln d && plns r
end
mutual
def dep : D → Nat
  | .tup ds => deps ds + 1
  | .lst ds => deps ds + 1
  | _ => 0
def deps : List D → Nat
  | [] => 0
  | d :: r => max (dep d) (deps r)
end
mutual
def pyO : D → PyData
  | .int i => .int i
  | .str x => .str x
  | .tup ds => .tuple (pyOs ds)
  | .lst ds => .list (pyOs ds)
  | .bl b => .bool b
  | _ => .none
def pyOs : List D → List PyData
  | [] => []
  | d :: r => pyO d :: pyOs r
end
mutual
theorem pln_py : ∀ d : D, pln d = true → toPy d = some (pyO d) ∧ (pyO d).canLay0 = true ∧ (pyO d).depth = dep d
  | .int _, _ => ⟨by simp [toPy, pyO], by simp [pyO, PyData.canLay0], by simp [pyO, PyData.depth, dep]⟩
  | .non, _ => ⟨by simp [toPy, pyO], by simp [pyO, PyData.canLay0], by simp [pyO, PyData.depth, dep]⟩
  | .str x, h => ⟨by simp [toPy, pyO], by simpa [pyO, PyData.canLay0, pln] using h, by simp [pyO, PyData.depth, dep]⟩
  | .tup ds, h => by
    obtain ⟨h1, h2, h3⟩ := plns_py ds (by simpa [pln] using h)
    exact ⟨by simp [toPy, pyO, h1], by simpa [pyO, PyData.canLay0] using h2, by simp [pyO, PyData.depth, dep, h3]⟩
  | .lst ds, h => by
    obtain ⟨h1, h2, h3⟩ := plns_py ds (by simpa [pln] using h)
    exact ⟨by simp [toPy, pyO, h1], by simpa [pyO, PyData.canLay0] using h2, by simp [pyO, PyData.depth, dep, h3]⟩
  | .bl _, h => by simp [pln] at h
  | .ins _ _, h => by simp [pln] at h
  | .cls _, h => by simp [pln] at h
  | .dic _ _, h => by simp [pln] at h
theorem plns_py : ∀ ds : List D, plns ds = true → toPys ds = some (pyOs ds) ∧ PyData.canLayAll0 (pyOs ds) = true ∧ PyData.depthAll (pyOs ds) = deps ds
  | [], _ => ⟨by simp [toPys, pyOs], by simp [pyOs, PyData.canLayAll0], by simp [pyOs, PyData.depthAll, deps]⟩
  | d :: r, h => by
    have h : pln d = true ∧ plns r = true := by simpa [plns] using h
    obtain ⟨h1, h2, h3⟩ := pln_py d h.1
    obtain ⟨g1, g2, g3⟩ := plns_py r h.2
    exact ⟨by simp [toPys, pyOs, h1, g1], by simp [pyOs, PyData.canLayAll0, h2, g2], by simp [pyOs, PyData.depthAll, deps, h3, g3]⟩
end
mutual
theorem pln_eqv : ∀ a b : D, pln a = true → pln b = true → (PyData.eqv (pyO a) (pyO b) = true ↔ a = b)
  | .int i, b, _, hb => by cases b <;> simp_all [pln, pyO, PyData.eqv]
  | .non, b, _, hb => by cases b <;> simp_all [pln, pyO, PyData.eqv]
  | .str x, b, _, hb => by cases b <;> simp_all [pln, pyO, PyData.eqv]
  | .tup ds, b, ha, hb => by
    cases b with
    | tup es =>
      have z := plns_eqv ds es (by simpa [pln] using ha) (by simpa [pln] using hb)
      simp [pyO, PyData.eqv, z]
    | _ => simp_all [pln, pyO, PyData.eqv]
  | .lst ds, b, ha, hb => by
    cases b with
    | lst es =>
      have z := plns_eqv ds es (by simpa [pln] using ha) (by simpa [pln] using hb)
      simp [pyO, PyData.eqv, z]
    | _ => simp_all [pln, pyO, PyData.eqv]
  | .bl _, _, h, _ => by simp [pln] at h
  | .ins _ _, _, h, _ => by simp [pln] at h
  | .cls _, _, h, _ => by simp [pln] at h
  | .dic _ _, _, h, _ => by simp [pln] at h
theorem plns_eqv : ∀ a b : List D, plns a = true → plns b = true → (PyData.eqvAll (pyOs a) (pyOs b) = true ↔ a = b)
  | [], b, _, _ => by cases b <;> simp [pyOs, PyData.eqvAll]
  | d :: r, [], _, _ => by simp [pyOs, PyData.eqvAll]
  | d :: r, e :: s, ha, hb => by
    have ha : pln d = true ∧ plns r = true := by simpa [plns] using ha
    have hb : pln e = true ∧ plns s = true := by simpa [plns] using hb
    have h1 := pln_eqv d e ha.1 hb.1
    have h2 := plns_eqv r s ha.2 hb.2
    simp [pyOs, PyData.eqvAll, h1, h2]
end
theorem pln_shaped {d : D} (h : pln d = true) (hd : dep d ≤ 64) : SeqAt.shaped (pyO d) = true := by
  obtain ⟨_, h2, h3⟩ := pln_py d h
  unfold SeqAt.shaped
  rw [h2, h3]
  simpa using hd
theorem eqD_pln {a b : D} (ha : pln a = true) (hb : pln b = true) (da : dep a ≤ 64) (db : dep b ≤ 64) {c : Bool} (h : a = b ↔ c = true) : eqD a b = some c := by
  unfold eqD
  rw [(pln_py a ha).1, (pln_py b hb).1]
  simp only [pln_shaped ha da, pln_shaped hb db, Bool.and_self, if_true]
  congr 1
  have z := pln_eqv a b ha hb
  cases c with
  | true => exact z.mpr (h.mpr rfl)
  | false =>
    cases q : PyData.eqv (pyO a) (pyO b) with
    | false => rfl
    | true => exact absurd (h.mp (z.mp q)) (by decide)
theorem eqD_same {a : D} (ha : pln a = true) (da : dep a ≤ 64) : eqD a a = some true := eqD_pln ha ha da da (by simp)
theorem eqD_ne {a b : D} (ha : pln a = true) (hb : pln b = true) (da : dep a ≤ 64) (db : dep b ≤ 64) (h : a ≠ b) : eqD a b = some false := eqD_pln ha hb da db (by simpa using h)
@[scoped simp] theorem eqD_int (a b : Int) : eqD (.int a) (.int b) = some (decide (a = b)) := eqD_pln (by simp [pln]) (by simp [pln]) (by simp [dep]) (by simp [dep]) (by simp)
theorem eqD_str {a b : Str} (ha : PyData.strOk a = true) (hb : PyData.strOk b = true) : eqD (.str a) (.str b) = some (a == b) := eqD_pln (by simpa [pln] using ha) (by simpa [pln] using hb) (by simp [dep]) (by simp [dep]) (by simp)
theorem inD_pln {a : D} {ds : List D} (ha : pln a = true) (hb : plns ds = true) (da : dep a ≤ 64) (db : deps ds < 64) {c : Bool} (h : a ∈ ds ↔ c = true) : inD a ds = some c := by
  unfold inD
  rw [(pln_py a ha).1, (plns_py ds hb).1]
  have hl : pln (.lst ds) = true := by simpa [pln] using hb
  have hl2 := pln_shaped hl (by simp only [dep]; omega)
  have e : pyO (.lst ds) = .list (pyOs ds) := by simp [pyO]
  rw [e] at hl2
  simp only [pln_shaped ha da, hl2, Bool.and_self, if_true]
  congr 1
  have key : ∀ es : List D, plns es = true → ((pyOs es).any (fun y => PyData.eqv y (pyO a)) = true ↔ a ∈ es) := by
    intro es he
    induction es with
    | nil => simp [pyOs]
    | cons x r ih =>
      have he : pln x = true ∧ plns r = true := by simpa [plns] using he
      have z := pln_eqv x a he.1 ha
      simp only [pyOs, List.any_cons, Bool.or_eq_true, z, ih he.2, List.mem_cons]
      exact or_congr_left ⟨Eq.symm, Eq.symm⟩
  have z := key ds hb
  cases c with
  | true => exact z.mpr (h.mpr rfl)
  | false =>
    cases q : (pyOs ds).any (fun y => PyData.eqv y (pyO a)) with
    | false => rfl
    | true => exact absurd (h.mp (z.mp q)) (by decide)
/-! ### the same, applied (printed by gen_k.py) -/
section
variable {Γ : Nat → Option Fn} {gl : Str → Option D}
@[scoped simp] theorem a_kTmp (ρ : Ro) (Q : QE)  (w) : kTmp ρ Q w = (Q (.tmp w) ρ) := rfl
@[scoped simp] theorem a_kVal (ρ : Ro) (Q : QE)  (d) : kVal ρ Q d = (Q (.tmp (.val d)) ρ) := rfl
@[scoped simp] theorem a_kBl (ρ : Ro) (Q : QE)  (b) : kBl ρ Q b = (Q (.tmp (.val (.bl b))) ρ) := rfl
@[scoped simp] theorem a_kSlot (ρ : Ro) (i : Nat) (Q : QE)  (z0) : kSlot ρ i Q z0 = (Q (.slot i) ρ) := rfl
@[scoped simp] theorem a_kTup2 (Q : QE)  (ds) (ρ) : kTup2 Q ds ρ = (ds.length ≤ big ∧ Q (.tmp (.val (.tup ds))) ρ) := rfl
@[scoped simp] theorem a_kTup (Q : QE)  (ps) (ρ) : kTup Q ps ρ = (Wp (toVals ρ ps) (kTup2 Q)) := rfl
@[scoped simp] theorem a_kLst2 (Q : QE)  (ds) (ρ) : kLst2 Q ds ρ = (ds.length ≤ big ∧ Q (.tmp (.own ds)) ρ) := rfl
@[scoped simp] theorem a_kLst (Q : QE)  (ps) (ρ) : kLst Q ps ρ = (Wp (toVals ρ ps) (kLst2 Q)) := rfl
@[scoped simp] theorem a_kBin2 (o : Op2) (p : Pl) (Q : QE)  (q) (ρ) : kBin2 o p Q q ρ = (Wq (bnd1 (getC ρ p) fun x => bnd1 (getC ρ q) fun y => bin2 o x y) (kTmp ρ Q)) := rfl
@[scoped simp] theorem a_kBin1 (o : Op2) (b : E) (Q : QE)  (p) (ρ) : kBin1 Γ gl o b Q p ρ = (Wp (evE Γ gl b ρ) (kBin2 o p Q)) := rfl
@[scoped simp] theorem a_kNeg (Q : QE)  (p) (ρ) : kNeg Q p ρ = (Wq (bnd1 (getQ ρ p) fun x => bnd1 (intD x) fun i => some (D.int (-i))) (kVal ρ Q)) := rfl
@[scoped simp] theorem a_kCmp2 (o : Cm) (p : Pl) (Q : QE)  (q) (ρ) : kCmp2 o p Q q ρ = (Wq (bnd1 (getQ ρ p) fun x => bnd1 (getQ ρ q) fun y => cmp2 o x y) (kBl ρ Q)) := rfl
@[scoped simp] theorem a_kCmp1 (o : Cm) (b : E) (Q : QE)  (p) (ρ) : kCmp1 Γ gl o b Q p ρ = (Wp (evE Γ gl b ρ) (kCmp2 o p Q)) := rfl
@[scoped simp] theorem a_kCh4 (o2 : Cm) (q : Pl) (Q : QE)  (r) (ρ) : kCh4 o2 q Q r ρ = (Wq (bnd1 (getQ ρ q) fun x => bnd1 (getQ ρ r) fun y => cmp2 o2 x y) (kBl ρ Q)) := rfl
@[scoped simp] theorem a_kCh3_false (o2 : Cm) (c : E) (q : Pl) (ρ : Ro) (Q : QE)   : kCh3 Γ gl o2 c q ρ Q false = (Q (.tmp (.val (.bl false))) ρ) := rfl
@[scoped simp] theorem a_kCh3_true (o2 : Cm) (c : E) (q : Pl) (ρ : Ro) (Q : QE)   : kCh3 Γ gl o2 c q ρ Q true = (Wp (evE Γ gl c ρ) (kCh4 o2 q Q)) := rfl
@[scoped simp] theorem a_kCh2 (o o2 : Cm) (c : E) (p : Pl) (Q : QE)  (q) (ρ) : kCh2 Γ gl o o2 c p Q q ρ = (Wq (bnd1 (getQ ρ p) fun x => bnd1 (getQ ρ q) fun y => cmp2 o x y) (kCh3 Γ gl o2 c q ρ Q)) := rfl
@[scoped simp] theorem a_kCh1 (o o2 : Cm) (b c : E) (Q : QE)  (p) (ρ) : kCh1 Γ gl o o2 b c Q p ρ = (Wp (evE Γ gl b ρ) (kCh2 Γ gl o o2 c p Q)) := rfl
@[scoped simp] theorem a_kB (ρ : Ro) (R : Bool → Ro → Prop)  (b) : kB ρ R b = (R b ρ) := rfl
@[scoped simp] theorem a_kTst (R : Bool → Ro → Prop)  (p) (ρ) : kTst R p ρ = (Wq (bnd1 (getQ ρ p) blD) (kB ρ R)) := rfl
@[scoped simp] theorem a_kTBl (Q : QE)  (b) (ρ) : kTBl Q b ρ = (Q (.tmp (.val (.bl b))) ρ) := rfl
@[scoped simp] theorem a_kAnd_true (b : E) (Q : QE)  (ρ) : kAnd Γ gl b Q true ρ = (Wp (evE Γ gl b ρ) (kTst (kTBl Q))) := rfl
@[scoped simp] theorem a_kAnd_false (b : E) (Q : QE)  (ρ) : kAnd Γ gl b Q false ρ = (Q (.tmp (.val (.bl false))) ρ) := rfl
@[scoped simp] theorem a_kOr_true (b : E) (Q : QE)  (ρ) : kOr Γ gl b Q true ρ = (Q (.tmp (.val (.bl true))) ρ) := rfl
@[scoped simp] theorem a_kOr_false (b : E) (Q : QE)  (ρ) : kOr Γ gl b Q false ρ = (Wp (evE Γ gl b ρ) (kTst (kTBl Q))) := rfl
@[scoped simp] theorem a_kNot (Q : QE)  (k) (ρ) : kNot Q k ρ = (Q (.tmp (.val (.bl (!k)))) ρ) := rfl
@[scoped simp] theorem a_kIfe_true (a b : E) (Q : QE)  (ρ) : kIfe Γ gl a b Q true ρ = (Wp (evE Γ gl a ρ) Q) := rfl
@[scoped simp] theorem a_kIfe_false (a b : E) (Q : QE)  (ρ) : kIfe Γ gl a b Q false ρ = (Wp (evE Γ gl b ρ) Q) := rfl
@[scoped simp] theorem a_kIx2 (p : Pl) (Q : QE)  (q) (ρ) : kIx2 p Q q ρ = (Wq (bnd1 (getQ ρ p) fun x => bnd1 (getQ ρ q) fun y => ixD x y) (kVal ρ Q)) := rfl
@[scoped simp] theorem a_kIx1 (b : E) (Q : QE)  (p) (ρ) : kIx1 Γ gl b Q p ρ = (Wp (evE Γ gl b ρ) (kIx2 p Q)) := rfl
@[scoped simp] theorem a_kSl3 (p : Pl) (l : Option Int) (Q : QE)  (h) (ρ) : kSl3 p l Q h ρ = (Wq (bnd1 (getQ ρ p) fun x => slD x l h) (kTmp ρ Q)) := rfl
@[scoped simp] theorem a_kSl2 (p : Pl) (hi : E) (Q : QE)  (l) (ρ) : kSl2 Γ gl p hi Q l ρ = (Wp (evO Γ gl hi ρ) (kSl3 p l Q)) := rfl
@[scoped simp] theorem a_kSl1 (lo hi : E) (Q : QE)  (p) (ρ) : kSl1 Γ gl lo hi Q p ρ = (Wp (evO Γ gl lo ρ) (kSl2 Γ gl p hi Q)) := rfl
@[scoped simp] theorem a_kRev (Q : QE)  (p) (ρ) : kRev Q p ρ = (Wq (bnd1 (getQ ρ p) revW) (kTmp ρ Q)) := rfl
@[scoped simp] theorem a_kFld (c : Str) (f : Nat) (Q : QE)  (p) (ρ) : kFld c f Q p ρ = (Wq (bnd1 (getQ ρ p) (fldD c f)) (kVal ρ Q)) := rfl
@[scoped simp] theorem a_kCall5 (ρ : Ro) (ms : List Mode) (ps : List Pl) (Q : QE)  (w) (outs) : kCall5 ρ ms ps Q w outs = (Q (.tmp w) (putBack ρ ms ps outs)) := rfl
@[scoped simp] theorem a_kCall4 (fn : Fn) (ρ : Ro) (ps : List Pl) (Q : QE)  (ds) : kCall4 fn ρ ps Q ds = (okSlots fn.modes ps = true ∧ Wp (fn.run ds) (kCall5 ρ fn.modes ps Q)) := rfl
@[scoped simp] theorem a_kCall3 (fn : Fn) (ps : List Pl) (Q : QE)  (vals) (ρ) : kCall3 fn ps Q vals ρ = (Wq (mergeA ρ fn.modes ps vals) (kCall4 fn ρ ps Q)) := rfl
@[scoped simp] theorem a_kCall2 (ρ : Ro) (ps : List Pl) (Q : QE)  (fn) : kCall2 ρ ps Q fn = (Wp (toVals ρ (valPs fn.modes ps)) (kCall3 fn ps Q)) := rfl
@[scoped simp] theorem a_kCall1 (f : Nat) (Q : QE)  (ps) (ρ) : kCall1 Γ f Q ps ρ = (Wq (Γ f) (kCall2 ρ ps Q)) := rfl
@[scoped simp] theorem a_kCm5 (ρ : Ro) (Q : QE)  (w) (outs) : kCm5 ρ Q w outs = (outs.isEmpty = true ∧ Q (.tmp w) ρ) := rfl
@[scoped simp] theorem a_kCm4 (d : D) (fn : Fn) (Q : QE)  (ds) (ρ) : kCm4 d fn Q ds ρ = (Wp (fn.run (d :: ds)) (kCm5 ρ Q)) := rfl
@[scoped simp] theorem a_kCm3 (d : D) (fn : Fn) (Q : QE)  (ps) (ρ) : kCm3 d fn Q ps ρ = (Wp (toVals ρ ps) (kCm4 d fn Q)) := rfl
@[scoped simp] theorem a_kCmF (es : List E) (ρ : Ro) (d : D) (Q : QE) (fn) : kCmF Γ gl es ρ d Q fn = (Wp (evEs Γ gl es ρ) (kCm3 d fn Q)) := rfl
@[scoped simp] theorem a_kCm2 (f : Nat) (es : List E) (ρ : Ro) (Q : QE) (d) : kCm2 Γ gl f es ρ Q d = (Wq (Γ f) (kCmF Γ gl es ρ d Q)) := rfl
@[scoped simp] theorem a_kCm1 (f : Nat) (es : List E) (Q : QE)  (p) (ρ) : kCm1 Γ gl f es Q p ρ = (Wq (getQ ρ p) (kCm2 Γ gl f es ρ Q)) := rfl
@[scoped simp] theorem a_kBi (b : Bi) (Q : QE)  (ps) (ρ) : kBi b Q ps ρ = (Wq (bnd1 (getQs ρ ps) (biRun b)) (kTmp ρ Q)) := rfl
@[scoped simp] theorem a_kBm2 (m : Bm) (d : D) (Q : QE)  (ps) (ρ) : kBm2 m d Q ps ρ = (Wq (bnd1 (getQs ρ ps) (bmRun m d)) (kTmp ρ Q)) := rfl
@[scoped simp] theorem a_kBm1 (m : Bm) (es : List E) (ρ : Ro) (Q : QE)  (d) : kBm1 Γ gl m es ρ Q d = (Wp (evEs Γ gl es ρ) (kBm2 m d Q)) := rfl
@[scoped simp] theorem a_kBm (m : Bm) (es : List E) (Q : QE)  (p) (ρ) : kBm Γ gl m es Q p ρ = (Wq (getQ ρ p) (kBm1 Γ gl m es ρ Q)) := rfl
@[scoped simp] theorem a_kSigns (Q : QE)  (p) (ρ) : kSigns Q p ρ = (Wq (bnd1 (getQ ρ p) fun d => bnd1 (strD d) fun x => req (decide (x.length ≤ big)) (some (W.own (signs x)))) (kTmp ρ Q)) := rfl
@[scoped simp] theorem a_kPop2 (i : Nat) (Q : QE)  (d) (ρ) : kPop2 i Q d ρ = (Q (.tmp (.val d)) ρ) := rfl
@[scoped simp] theorem a_kPop1 (i : Nat) (Q : QE)  (p) (ρ1) : kPop1 i Q p ρ1 = (Wp (bnd1 (getQ ρ1 p) fun d => bnd1 (intD d) fun k => bnd1 ((ρ1[i]?).join) fun w => bnd1 (ownW w) fun ds => req (decide (0 ≤ k) && decide (k ≤ 1000000)) (bnd1 (ds[k.toNat]?) fun d => some (d, ρ1.set i (some (.own (ds.eraseIdx k.toNat)))))) (kPop2 i Q)) := rfl
@[scoped simp] theorem a_kPop0 (i : Nat) (e : E) (ρ : Ro) (Q : QE)  (z0) : kPop0 Γ gl i e ρ Q z0 = (Wp (evE Γ gl e ρ) (kPop1 i Q)) := rfl
@[scoped simp] theorem a_kComp2 (ρ1 : Ro) (own : List Nat) (Q : QE)  (out) (ρ2) : kComp2 ρ1 own Q out ρ2 = (Q (.tmp (.own out)) (backR ρ1 ρ2 own)) := rfl
@[scoped simp] theorem a_kComp1 (elt : E) (g : G) (c : E) (own : List Nat) (Q : QE)  (ds) (ρ1) : kComp1 Γ gl elt g c own Q ds ρ1 = (clearR ρ1 own = true ∧ Wp (compL own g (fun ρ => tstOf (evE Γ gl c ρ)) (fun ρ => evE Γ gl elt ρ) ds (wipeR ρ1 own) []) (kComp2 ρ1 own Q)) := rfl
@[scoped simp] theorem a_kStr (Q : QE)  (x) (ρ) : kStr Q x ρ = (Q (.tmp (.val (.str x))) ρ) := rfl
@[scoped simp] theorem a_kEs2 (p : Pl) (Q : QEs)  (ps) (ρ) : kEs2 p Q ps ρ = (Q (p :: ps) ρ) := rfl
@[scoped simp] theorem a_kEs1 (es : List E) (Q : QEs)  (p) (ρ) : kEs1 Γ gl es Q p ρ = (Wp (evEs Γ gl es ρ) (kEs2 p Q)) := rfl
@[scoped simp] theorem a_kSt3 (ds : List D) (Q : QEs)  (ps) (ρ) : kSt3 ds Q ps ρ = (Q (ds.map (fun d => Pl.tmp (.val d)) ++ ps) ρ) := rfl
@[scoped simp] theorem a_kSt2 (es : List E) (ρ : Ro) (Q : QEs)  (ds) : kSt2 Γ gl es ρ Q ds = (Wp (evEs Γ gl es ρ) (kSt3 ds Q)) := rfl
@[scoped simp] theorem a_kSt1 (es : List E) (Q : QEs)  (p) (ρ) : kSt1 Γ gl es Q p ρ = (Wq (bnd1 (getQ ρ p) seqD) (kSt2 Γ gl es ρ Q)) := rfl
@[scoped simp] theorem a_kFs2 (es : List E) (acc : Str) (ρ : Ro) (Q : Str → Ro → Prop)  (x) : kFs2 Γ gl es acc ρ Q x = (acc.length + x.length ≤ big ∧ Wp (evFs Γ gl es ρ (acc ++ x)) Q) := rfl
@[scoped simp] theorem a_kFs1 (es : List E) (acc : Str) (Q : Str → Ro → Prop)  (p) (ρ) : kFs1 Γ gl es acc Q p ρ = (Wq (bnd1 (getQ ρ p) fmtD) (kFs2 Γ gl es acc ρ Q)) := rfl
@[scoped simp] theorem a_kO2 (ρ : Ro) (Q : Option Int → Ro → Prop)  (i) : kO2 ρ Q i = (Q (some i) ρ) := rfl
@[scoped simp] theorem a_kO1 (Q : Option Int → Ro → Prop)  (p) (ρ) : kO1 Q p ρ = (Wq (bnd1 (getQ ρ p) intD) (kO2 ρ Q)) := rfl
@[scoped simp] theorem a_kI1 (Q : QI)  (p) (ρ) : kI1 Q p ρ = (Wp (walkP ρ p) Q) := rfl
@[scoped simp] theorem a_kIds (ρ : Ro) (Q : QI)  (ds) : kIds ρ Q ds = (Q ds ρ) := rfl
@[scoped simp] theorem a_kR1 (Q : QI)  (p) (ρ) : kR1 Q p ρ = (Wq (bnd1 (getQ ρ p) fun d => bnd1 (intD d) fun n => req (isSm n) (some (rangeD 0 n))) (kIds ρ Q)) := rfl
@[scoped simp] theorem a_kR3 (p : Pl) (Q : QI)  (q) (ρ) : kR3 p Q q ρ = (Wq (bnd1 (getQ ρ p) fun x => bnd1 (intD x) fun m => bnd1 (getQ ρ q) fun y => bnd1 (intD y) fun n => req (isSm m && isSm n) (some (rangeD m n))) (kIds ρ Q)) := rfl
@[scoped simp] theorem a_kR2 (b : E) (Q : QI)  (p) (ρ) : kR2 Γ gl b Q p ρ = (Wp (evE Γ gl b ρ) (kR3 p Q)) := rfl
@[scoped simp] theorem a_kZ2 (p : Pl) (Q : QI)  (q) (ρ) : kZ2 p Q q ρ = (Wp (bnd2 (toVal ρ p) fun x ρ3 => bnd2 (toVal ρ3 q) fun y ρ4 => bnd1 (zip2 x y) fun l => some (l, ρ4)) Q) := rfl
@[scoped simp] theorem a_kZ1 (b : E) (Q : QI)  (p) (ρ) : kZ1 Γ gl b Q p ρ = (Wp (evE Γ gl b ρ) (kZ2 p Q)) := rfl
@[scoped simp] theorem a_kEn (Q : QI)  (p) (ρ) : kEn Q p ρ = (Wp (bnd2 (toVal ρ p) fun d ρ2 => bnd1 (seqD d) fun ds => some (enumD 0 ds, ρ2)) Q) := rfl
@[scoped simp] theorem a_kNx (Q : QS)  (ρ) : kNx Q ρ = (Q .nx ρ) := rfl
@[scoped simp] theorem a_kAsg (g : G) (Q : QS)  (p) (ρ) : kAsg g Q p ρ = (Wq (put g p ρ) (kNx Q)) := rfl
@[scoped simp] theorem a_kAsgS (i j : Nat) (Q : QS)  (p) (ρ) : kAsgS i j Q p ρ = (Wq (bnd1 (getQ ρ p) fun d => bnd1 (lstD d) fun l => req (decide (l.length ≤ 10000)) (match l with
    | x :: r => some ((ρ.set i (some (.val x))).set j (some (.own r)))
    | [] => none)) (kNx Q)) := rfl
@[scoped simp] theorem a_kPar2 (i j : Nat) (p : Pl) (Q : QS)  (q) (ρ) : kPar2 i j p Q q ρ = (Wq (bnd2 (give ρ p) fun v ρ3 => bnd2 (give ρ3 q) fun w ρ4 => some ((ρ4.set i (some v)).set j (some w))) (kNx Q)) := rfl
@[scoped simp] theorem a_kPar1 (i j : Nat) (b : E) (Q : QS)  (p) (ρ) : kPar1 Γ gl i j b Q p ρ = (Wp (evE Γ gl b ρ) (kPar2 i j p Q)) := rfl
@[scoped simp] theorem a_kSet3 (i : Nat) (d : D) (Q : QS)  (q) (ρ) : kSet3 i d Q q ρ = (Wq (bnd1 (getQ ρ q) fun x => bnd1 (intD x) fun k => bnd1 ((ρ[i]?).join) fun w => bnd1 (ownW w) fun ds =>
      req (decide (0 ≤ k) && decide (k.toNat < ds.length)) (some (ρ.set i (some (.own (ds.set k.toNat d)))))) (kNx Q)) := rfl
@[scoped simp] theorem a_kSet2 (i : Nat) (ie : E) (Q : QS)  (d) (ρ) : kSet2 Γ gl i ie Q d ρ = (Wp (evE Γ gl ie ρ) (kSet3 i d Q)) := rfl
@[scoped simp] theorem a_kSet1 (i : Nat) (ie : E) (Q : QS)  (p) (ρ) : kSet1 Γ gl i ie Q p ρ = (Wp (toVal ρ p) (kSet2 Γ gl i ie Q)) := rfl
@[scoped simp] theorem a_kSet0 (i : Nat) (ie e : E) (ρ : Ro) (Q : QS)  (z0) : kSet0 Γ gl i ie e ρ Q z0 = (Wp (evE Γ gl e ρ) (kSet1 Γ gl i ie Q)) := rfl
@[scoped simp] theorem a_kExp (Q : QS)  (z0) (ρ) : kExp Q z0 ρ = (Q .nx ρ) := rfl
@[scoped simp] theorem a_kApp1 (i : Nat) (Q : QS)  (p) (ρ) : kApp1 i Q p ρ = (Wq (bnd2 (toVal ρ p) fun d ρ2 => bnd1 ((ρ2[i]?).join) fun w => bnd1 (ownW w) fun ds => req (decide (ds.length < big)) (some (ρ2.set i (some (.own (ds ++ [d])))))) (kNx Q)) := rfl
@[scoped simp] theorem a_kApp0 (i : Nat) (e : E) (ρ : Ro) (Q : QS)  (z0) : kApp0 Γ gl i e ρ Q z0 = (Wp (evE Γ gl e ρ) (kApp1 i Q)) := rfl
@[scoped simp] theorem a_kExt1 (i : Nat) (Q : QS)  (p) (ρ) : kExt1 i Q p ρ = (Wq (bnd1 (getC ρ p) fun x => bnd1 (lstD x) fun es => bnd1 ((ρ[i]?).join) fun w => bnd1 (ownW w) fun ds => req (decide (ds.length + es.length ≤ big)) (some (ρ.set i (some (.own (ds ++ es)))))) (kNx Q)) := rfl
@[scoped simp] theorem a_kExt0 (i : Nat) (e : E) (ρ : Ro) (Q : QS)  (z0) : kExt0 Γ gl i e ρ Q z0 = (Wp (evE Γ gl e ρ) (kExt1 i Q)) := rfl
@[scoped simp] theorem a_kIte_true (t f : List S) (Q : QS)  (ρ) : kIte Γ gl t f Q true ρ = (Wp (evSs Γ gl t ρ) Q) := rfl
@[scoped simp] theorem a_kIte_false (t f : List S) (Q : QS)  (ρ) : kIte Γ gl t f Q false ρ = (Wp (evSs Γ gl f ρ) Q) := rfl
@[scoped simp] theorem a_kFor (g : G) (b : List S) (Q : QS)  (ds) (ρ) : kFor Γ gl g b Q ds ρ = (Wp (forL g (fun ρ => evSs Γ gl b ρ) ds ρ) Q) := rfl
@[scoped simp] theorem a_kRet2 (Q : QS)  (w) (ρ) : kRet2 Q w ρ = (Q (.ret w) ρ) := rfl
@[scoped simp] theorem a_kRet (Q : QS)  (p) (ρ) : kRet Q p ρ = (Wp (give ρ p) (kRet2 Q)) := rfl
@[scoped simp] theorem a_kSeq_nx (r : List S) (Q : QS)  (ρ) : kSeq Γ gl r Q (Out.nx) ρ = (Wp (evSs Γ gl r ρ) Q) := rfl
@[scoped simp] theorem a_kSeq_retw (r : List S) (Q : QS)  (w : W) (ρ) : kSeq Γ gl r Q (Out.ret w) ρ = (Q (.ret w) ρ) := rfl
@[scoped simp] theorem a_kSeq_brk (r : List S) (Q : QS)  (ρ) : kSeq Γ gl r Q (Out.brk) ρ = (Q .brk ρ) := rfl
@[scoped simp] theorem a_kSeq_cont (r : List S) (Q : QS)  (ρ) : kSeq Γ gl r Q (Out.cont) ρ = (Q .cont ρ) := rfl
@[scoped simp] theorem a_kEnd (ms : List Mode) (Q : QR)  (o) (ρ) : kEnd ms Q o ρ = (Wp (bnd1 (outW o) fun w => bnd1 (outs0 ms ρ) fun l => some (w, l)) Q) := rfl
@[scoped simp] theorem a_kRun (ms : List Mode) (n : Nat) (body : List S) (Q : QR)  (ρ0) : kRun Γ gl ms n body Q ρ0 = (Wp (evSs Γ gl body (ρ0 ++ List.replicate (n - ms.length) none)) (kEnd ms Q)) := rfl
@[scoped simp] theorem a_kT5 (own : List Nat) (Q : QT)  (x) (ρ) : kT5 own Q x ρ = (Q (some x) (wipeR ρ own)) := rfl
@[scoped simp] theorem a_kT4 (own : List Nat) (Q : QT)  (p) (ρ) : kT4 own Q p ρ = (Wp (toVal ρ p) (kT5 own Q)) := rfl
@[scoped simp] theorem a_kT3_true (own : List Nat) (elt : E) (Q : QT)  (ρ) : kT3 Γ gl own elt Q true ρ = (Wp (evE Γ gl elt ρ) (kT4 own Q)) := rfl
@[scoped simp] theorem a_kT3_false (own : List Nat) (elt : E) (Q : QT)  (ρ) : kT3 Γ gl own elt Q false ρ = (Q none (wipeR ρ own)) := rfl
@[scoped simp] theorem a_kT1 (own : List Nat) (c elt : E) (Q : QT)  (ρ) : kT1 Γ gl own c elt Q ρ = (Wp (evE Γ gl c ρ) (kTst (kT3 Γ gl own elt Q))) := rfl
@[scoped simp] theorem a_kBody (b : List S) (Q : QS)  (ρ) : kBody Γ gl b Q ρ = (Wp (evSs Γ gl b ρ) Q) := rfl
end
@[scoped simp] theorem w_es_nil {Γ : Nat → Option Fn} {gl : Str → Option D}  (es0 : List E) (ρ : Ro) (Q : QEs) : Wp (evEs Γ gl (E.nil  :: es0) ρ) Q = Wp (evE Γ gl (E.nil ) ρ) (kEs1 Γ gl es0 Q) := w_esc _ _ _ _ rfl
@[scoped simp] theorem w_es_var {Γ : Nat → Option Fn} {gl : Str → Option D} (i : Nat) (es0 : List E) (ρ : Ro) (Q : QEs) : Wp (evEs Γ gl (E.var i :: es0) ρ) Q = Wp (evE Γ gl (E.var i) ρ) (kEs1 Γ gl es0 Q) := w_esc _ _ _ _ rfl
@[scoped simp] theorem w_es_cst {Γ : Nat → Option Fn} {gl : Str → Option D} (d : D) (es0 : List E) (ρ : Ro) (Q : QEs) : Wp (evEs Γ gl (E.cst d :: es0) ρ) Q = Wp (evE Γ gl (E.cst d) ρ) (kEs1 Γ gl es0 Q) := w_esc _ _ _ _ rfl
@[scoped simp] theorem w_es_glob {Γ : Nat → Option Fn} {gl : Str → Option D} (x : Str) (es0 : List E) (ρ : Ro) (Q : QEs) : Wp (evEs Γ gl (E.glob x :: es0) ρ) Q = Wp (evE Γ gl (E.glob x) ρ) (kEs1 Γ gl es0 Q) := w_esc _ _ _ _ rfl
@[scoped simp] theorem w_es_tup {Γ : Nat → Option Fn} {gl : Str → Option D} (es : List E) (es0 : List E) (ρ : Ro) (Q : QEs) : Wp (evEs Γ gl (E.tup es :: es0) ρ) Q = Wp (evE Γ gl (E.tup es) ρ) (kEs1 Γ gl es0 Q) := w_esc _ _ _ _ rfl
@[scoped simp] theorem w_es_lst {Γ : Nat → Option Fn} {gl : Str → Option D} (es : List E) (es0 : List E) (ρ : Ro) (Q : QEs) : Wp (evEs Γ gl (E.lst es :: es0) ρ) Q = Wp (evE Γ gl (E.lst es) ρ) (kEs1 Γ gl es0 Q) := w_esc _ _ _ _ rfl
@[scoped simp] theorem w_es_bin {Γ : Nat → Option Fn} {gl : Str → Option D} (o : Op2) (a b : E) (es0 : List E) (ρ : Ro) (Q : QEs) : Wp (evEs Γ gl (E.bin o a b :: es0) ρ) Q = Wp (evE Γ gl (E.bin o a b) ρ) (kEs1 Γ gl es0 Q) := w_esc _ _ _ _ rfl
@[scoped simp] theorem w_es_neg {Γ : Nat → Option Fn} {gl : Str → Option D} (a : E) (es0 : List E) (ρ : Ro) (Q : QEs) : Wp (evEs Γ gl (E.neg a :: es0) ρ) Q = Wp (evE Γ gl (E.neg a) ρ) (kEs1 Γ gl es0 Q) := w_esc _ _ _ _ rfl
@[scoped simp] theorem w_es_cmp {Γ : Nat → Option Fn} {gl : Str → Option D} (o : Cm) (a b : E) (es0 : List E) (ρ : Ro) (Q : QEs) : Wp (evEs Γ gl (E.cmp o a b :: es0) ρ) Q = Wp (evE Γ gl (E.cmp o a b) ρ) (kEs1 Γ gl es0 Q) := w_esc _ _ _ _ rfl
@[scoped simp] theorem w_es_chain {Γ : Nat → Option Fn} {gl : Str → Option D} (o o2 : Cm) (a b c : E) (es0 : List E) (ρ : Ro) (Q : QEs) : Wp (evEs Γ gl (E.chain o o2 a b c :: es0) ρ) Q = Wp (evE Γ gl (E.chain o o2 a b c) ρ) (kEs1 Γ gl es0 Q) := w_esc _ _ _ _ rfl
@[scoped simp] theorem w_es_and {Γ : Nat → Option Fn} {gl : Str → Option D} (a b : E) (es0 : List E) (ρ : Ro) (Q : QEs) : Wp (evEs Γ gl (E.and a b :: es0) ρ) Q = Wp (evE Γ gl (E.and a b) ρ) (kEs1 Γ gl es0 Q) := w_esc _ _ _ _ rfl
@[scoped simp] theorem w_es_or {Γ : Nat → Option Fn} {gl : Str → Option D} (a b : E) (es0 : List E) (ρ : Ro) (Q : QEs) : Wp (evEs Γ gl (E.or a b :: es0) ρ) Q = Wp (evE Γ gl (E.or a b) ρ) (kEs1 Γ gl es0 Q) := w_esc _ _ _ _ rfl
@[scoped simp] theorem w_es_not {Γ : Nat → Option Fn} {gl : Str → Option D} (a : E) (es0 : List E) (ρ : Ro) (Q : QEs) : Wp (evEs Γ gl (E.not a :: es0) ρ) Q = Wp (evE Γ gl (E.not a) ρ) (kEs1 Γ gl es0 Q) := w_esc _ _ _ _ rfl
@[scoped simp] theorem w_es_ife {Γ : Nat → Option Fn} {gl : Str → Option D} (c a b : E) (es0 : List E) (ρ : Ro) (Q : QEs) : Wp (evEs Γ gl (E.ife c a b :: es0) ρ) Q = Wp (evE Γ gl (E.ife c a b) ρ) (kEs1 Γ gl es0 Q) := w_esc _ _ _ _ rfl
@[scoped simp] theorem w_es_ix {Γ : Nat → Option Fn} {gl : Str → Option D} (a b : E) (es0 : List E) (ρ : Ro) (Q : QEs) : Wp (evEs Γ gl (E.ix a b :: es0) ρ) Q = Wp (evE Γ gl (E.ix a b) ρ) (kEs1 Γ gl es0 Q) := w_esc _ _ _ _ rfl
@[scoped simp] theorem w_es_sl {Γ : Nat → Option Fn} {gl : Str → Option D} (a lo hi : E) (es0 : List E) (ρ : Ro) (Q : QEs) : Wp (evEs Γ gl (E.sl a lo hi :: es0) ρ) Q = Wp (evE Γ gl (E.sl a lo hi) ρ) (kEs1 Γ gl es0 Q) := w_esc _ _ _ _ rfl
@[scoped simp] theorem w_es_rev {Γ : Nat → Option Fn} {gl : Str → Option D} (a : E) (es0 : List E) (ρ : Ro) (Q : QEs) : Wp (evEs Γ gl (E.rev a :: es0) ρ) Q = Wp (evE Γ gl (E.rev a) ρ) (kEs1 Γ gl es0 Q) := w_esc _ _ _ _ rfl
@[scoped simp] theorem w_es_fld {Γ : Nat → Option Fn} {gl : Str → Option D} (c : Str) (f : Nat) (a : E) (es0 : List E) (ρ : Ro) (Q : QEs) : Wp (evEs Γ gl (E.fld c f a :: es0) ρ) Q = Wp (evE Γ gl (E.fld c f a) ρ) (kEs1 Γ gl es0 Q) := w_esc _ _ _ _ rfl
@[scoped simp] theorem w_es_call {Γ : Nat → Option Fn} {gl : Str → Option D} (f : Nat) (es : List E) (es0 : List E) (ρ : Ro) (Q : QEs) : Wp (evEs Γ gl (E.call f es :: es0) ρ) Q = Wp (evE Γ gl (E.call f es) ρ) (kEs1 Γ gl es0 Q) := w_esc _ _ _ _ rfl
@[scoped simp] theorem w_es_callm {Γ : Nat → Option Fn} {gl : Str → Option D} (f : Nat) (e : E) (es : List E) (es0 : List E) (ρ : Ro) (Q : QEs) : Wp (evEs Γ gl (E.callm f e es :: es0) ρ) Q = Wp (evE Γ gl (E.callm f e es) ρ) (kEs1 Γ gl es0 Q) := w_esc _ _ _ _ rfl
@[scoped simp] theorem w_es_bi {Γ : Nat → Option Fn} {gl : Str → Option D} (b : Bi) (es : List E) (es0 : List E) (ρ : Ro) (Q : QEs) : Wp (evEs Γ gl (E.bi b es :: es0) ρ) Q = Wp (evE Γ gl (E.bi b es) ρ) (kEs1 Γ gl es0 Q) := w_esc _ _ _ _ rfl
@[scoped simp] theorem w_es_bm {Γ : Nat → Option Fn} {gl : Str → Option D} (m : Bm) (o : E) (es : List E) (es0 : List E) (ρ : Ro) (Q : QEs) : Wp (evEs Γ gl (E.bm m o es :: es0) ρ) Q = Wp (evE Γ gl (E.bm m o es) ρ) (kEs1 Γ gl es0 Q) := w_esc _ _ _ _ rfl
@[scoped simp] theorem w_es_signs {Γ : Nat → Option Fn} {gl : Str → Option D} (e : E) (es0 : List E) (ρ : Ro) (Q : QEs) : Wp (evEs Γ gl (E.signs e :: es0) ρ) Q = Wp (evE Γ gl (E.signs e) ρ) (kEs1 Γ gl es0 Q) := w_esc _ _ _ _ rfl
@[scoped simp] theorem w_es_popAt {Γ : Nat → Option Fn} {gl : Str → Option D} (i : Nat) (e : E) (es0 : List E) (ρ : Ro) (Q : QEs) : Wp (evEs Γ gl (E.popAt i e :: es0) ρ) Q = Wp (evE Γ gl (E.popAt i e) ρ) (kEs1 Γ gl es0 Q) := w_esc _ _ _ _ rfl
@[scoped simp] theorem w_es_comp {Γ : Nat → Option Fn} {gl : Str → Option D} (elt : E) (g : G) (it : E) (c : E) (own : List Nat) (es0 : List E) (ρ : Ro) (Q : QEs) : Wp (evEs Γ gl (E.comp elt g it c own :: es0) ρ) Q = Wp (evE Γ gl (E.comp elt g it c own) ρ) (kEs1 Γ gl es0 Q) := w_esc _ _ _ _ rfl
@[scoped simp] theorem w_es_fstr {Γ : Nat → Option Fn} {gl : Str → Option D} (es : List E) (es0 : List E) (ρ : Ro) (Q : QEs) : Wp (evEs Γ gl (E.fstr es :: es0) ρ) Q = Wp (evE Γ gl (E.fstr es) ρ) (kEs1 Γ gl es0 Q) := w_esc _ _ _ _ rfl
end DT

end
section
/-! Plain law: a comprehension with two sources. -/
namespace DT
open PySem L2
variable {Γ : Nat → Option Fn} {gl : Str → Option D}
/-- items behind a star -/
theorem toVals_star {α : Type} (f : α → D) (ρ : Ro) {ps : List Pl} {r : List D} (h : toVals ρ ps = some (r, ρ)) : ∀ l : List α, toVals ρ ((l.map ((fun d => Pl.tmp (.val d)) ∘ f)) ++ ps) = some (l.map f ++ r, ρ)
  | [] => h
  | a :: l => by
    have ih := toVals_star f ρ h l
    rw [List.map_cons, List.cons_append, toVals_cons]
    show bnd2 (some (f a, ρ)) (fun d ρ1 => bnd2 (toVals ρ1 (l.map ((fun d => Pl.tmp (.val d)) ∘ f) ++ ps)) fun ds ρ2 => some (d :: ds, ρ2)) = _
    rw [bnd2_some, ih]
    rfl
theorem evE_comp2 (elt : E) (g : G) (it c : E) (own : List Nat) (g1 : G) (it1 c1 : E) (own1 : List Nat) (ρ : Ro) : evE Γ gl (.comp2 elt g it c own g1 it1 c1 own1) ρ = (bnd2 (evI Γ gl it ρ) fun ds ρ1 => req (clearR ρ1 own) (bnd2 (compL2 own g (fun ρ => tstOf (evE Γ gl c ρ)) (fun ρ => evI Γ gl it1 ρ) own1 (compL own1 g1 (fun ρ => tstOf (evE Γ gl c1 ρ)) (fun ρ => evE Γ gl elt ρ)) ds (wipeR ρ1 own) []) fun out ρ2 => some (.tmp (.own out), backR ρ1 ρ2 own))) := by first | rfl | (unfold evE; rfl)
/-- a turn of the first source -/
def turn2 (own : List Nat) (g : G) (tst : Ro → Option (Bool × Ro)) (it1 : Ro → Option (List D × Ro)) (own1 : List Nat) (inn : List D → Ro → List D → Option (List D × Ro)) (acc : List D) (d : D) (ρ : Ro) : Option (List D × Ro) :=
  bnd1 (asg g d ρ) fun ρ1 => bnd2 (tst ρ1) fun b ρ2 => match b with
    | true => bnd2 (it1 ρ2) fun es ρ3 => bnd2 (inn es (wipeR ρ3 own1) acc) fun acc' ρ4 => some (acc', wipeR ρ4 own)
    | false => some (acc, wipeR ρ2 own)
theorem compL2_cons {own : List Nat} {g : G} {tst : Ro → Option (Bool × Ro)} {it1 : Ro → Option (List D × Ro)} {own1 : List Nat} {inn : List D → Ro → List D → Option (List D × Ro)} (d : D) (ds : List D) (ρ : Ro) (acc : List D) :
    compL2 own g tst it1 own1 inn (d :: ds) ρ acc = bnd2 (turn2 own g tst it1 own1 inn acc d ρ) fun acc' ρ' => compL2 own g tst it1 own1 inn ds ρ' acc' := by
  conv => lhs; unfold compL2
  unfold turn2
  cases asg g d ρ with
  | none => rfl
  | some ρ1 =>
    simp only [bnd1_some]
    cases tst ρ1 with
    | none => rfl
    | some q =>
      obtain ⟨b, ρ2⟩ := q
      simp only [bnd2_some]
      cases b with
      | false => rfl
      | true =>
        dsimp only
        cases it1 ρ2 with
        | none => rfl
        | some q =>
          obtain ⟨es, ρ3⟩ := q
          simp only [bnd2_some]
          cases inn es (wipeR ρ3 own1) acc with
          | none => rfl
          | some q => rfl
theorem wp_comp2_inv {own : List Nat} {g : G} {tst : Ro → Option (Bool × Ro)} {it1 : Ro → Option (List D × Ro)} {own1 : List Nat} {inn : List D → Ro → List D → Option (List D × Ro)} {Q : List D → Ro → Prop} (I : List D → Ro → List D → Prop)
    (step : ∀ d r ρ acc, I (d :: r) ρ acc → Wp (turn2 own g tst it1 own1 inn acc d ρ) fun acc' ρ' => I r ρ' acc') :
    ∀ {ds : List D} {ρ : Ro} {acc : List D}, I ds ρ acc → (∀ acc' ρ', I [] ρ' acc' → Q acc' ρ') → Wp (compL2 own g tst it1 own1 inn ds ρ acc) Q
  | [], ρ, acc, h, q => ⟨acc, ρ, rfl, q _ _ h⟩
  | d :: ds, ρ, acc, h, q => by
    obtain ⟨acc', ρ', e, h'⟩ := step d ds ρ acc h
    rw [compL2_cons, e, bnd2_some]
    exact wp_comp2_inv I step h' q
/-- each turn appends f a -/
theorem wp_comp2 {own : List Nat} {g : G} {tst : Ro → Option (Bool × Ro)} {it1 : Ro → Option (List D × Ro)} {own1 : List Nat} {inn : List D → Ro → List D → Option (List D × Ro)} {Q : List D → Ro → Prop} {α : Type} (c : α → D) (f : α → List D) {ρ : Ro} :
    ∀ {l : List α} {acc : List D}, (∀ a ∈ l, ∀ acc, acc.length + (f a).length ≤ big → Wp (turn2 own g tst it1 own1 inn acc (c a) ρ) fun acc' ρ' => acc' = acc ++ f a ∧ ρ' = ρ) → acc.length + (l.flatMap f).length ≤ big → Q (acc ++ l.flatMap f) ρ → Wp (compL2 own g tst it1 own1 inn (l.map c) ρ acc) Q
  | [], acc, _, _, q => ⟨acc, ρ, rfl, by simpa using q⟩
  | a :: l, acc, h, hl, q => by
    rw [List.flatMap_cons, List.length_append] at hl
    obtain ⟨acc', ρ', e, e1, e2⟩ := h a (List.mem_cons_self ..) acc (by omega)
    subst e1 e2
    rw [List.map_cons, compL2_cons, e, bnd2_some]
    refine wp_comp2 c f (fun b hb => h b (List.mem_cons_of_mem _ hb)) (by rw [List.length_append]; omega) ?_
    rw [List.append_assoc]
    simpa using q
section
variable (Γ : Nat → Option Fn) (gl : Str → Option D)
def kC21 (elt : E) (g : G) (c : E) (own : List Nat) (g1 : G) (it1 c1 : E) (own1 : List Nat) (Q : QE) : List D → Ro → Prop := fun ds ρ1 => clearR ρ1 own = true ∧ Wp (compL2 own g (fun ρ => tstOf (evE Γ gl c ρ)) (fun ρ => evI Γ gl it1 ρ) own1 (compL own1 g1 (fun ρ => tstOf (evE Γ gl c1 ρ)) (fun ρ => evE Γ gl elt ρ)) ds (wipeR ρ1 own) []) (kComp2 ρ1 own Q)
abbrev QL := List D → Ro → Prop
def kU4 (own : List Nat) (Q : QL) : List D → Ro → Prop := fun acc ρ => Q acc (wipeR ρ own)
def kU3 (own own1 : List Nat) (inn : List D → Ro → List D → Option (List D × Ro)) (acc : List D) (Q : QL) : List D → Ro → Prop := fun es ρ => Wp (inn es (wipeR ρ own1) acc) (kU4 own Q)
def kU2 (own : List Nat) (it1 : E) (own1 : List Nat) (inn : List D → Ro → List D → Option (List D × Ro)) (acc : List D) (Q : QL) : Bool → Ro → Prop := fun b ρ => match b with
  | true => Wp (evI Γ gl it1 ρ) (kU3 own own1 inn acc Q)
  | false => Q acc (wipeR ρ own)
def kU1 (own : List Nat) (c it1 : E) (own1 : List Nat) (inn : List D → Ro → List D → Option (List D × Ro)) (acc : List D) (Q : QL) : Ro → Prop := fun ρ => Wp (evE Γ gl c ρ) (kTst (kU2 Γ gl own it1 own1 inn acc Q))
end
@[scoped simp] theorem w_comp2 (elt : E) (g : G) (it c : E) (own : List Nat) (g1 : G) (it1 c1 : E) (own1 : List Nat) (ρ : Ro) (Q : QE) : Wp (evE Γ gl (.comp2 elt g it c own g1 it1 c1 own1) ρ) Q = Wp (evI Γ gl it ρ) (kC21 Γ gl elt g c own g1 it1 c1 own1 Q) := by
  (try delta kC21); (try delta kComp2); simp only [evE_comp2, wp_bnd2, wp_req, wp_some]
@[scoped simp] theorem w_turn2 (own : List Nat) (g : G) (c it1 : E) (own1 : List Nat) (inn : List D → Ro → List D → Option (List D × Ro)) (acc : List D) (d : D) (ρ : Ro) (Q : QL) :
    Wp (turn2 own g (fun ρ => tstOf (evE Γ gl c ρ)) (fun ρ => evI Γ gl it1 ρ) own1 inn acc d ρ) Q = Wq (asg g d ρ) (kU1 Γ gl own c it1 own1 inn acc Q) := by
  unfold turn2
  rw [wp_bnd1]
  refine congrArg (fun R => Wq _ R) (funext fun ρ1 => ?_)
  rw [wp_bnd2, w_tst]
  (try delta kU1)
  refine congrArg (fun R => Wp _ (kTst R)) (funext fun k => funext fun ρ2 => ?_)
  cases k <;> simp only [kU2] <;> (try delta kU3) <;> (try delta kU4) <;> (try simp only [wp_bnd2, wp_some])
@[scoped simp] theorem a_kC21 (elt : E) (g : G) (c : E) (own : List Nat) (g1 : G) (it1 c1 : E) (own1 : List Nat) (Q : QE) (ds) (ρ1) : kC21 Γ gl elt g c own g1 it1 c1 own1 Q ds ρ1 = (clearR ρ1 own = true ∧ Wp (compL2 own g (fun ρ => tstOf (evE Γ gl c ρ)) (fun ρ => evI Γ gl it1 ρ) own1 (compL own1 g1 (fun ρ => tstOf (evE Γ gl c1 ρ)) (fun ρ => evE Γ gl elt ρ)) ds (wipeR ρ1 own) []) (kComp2 ρ1 own Q)) := rfl
@[scoped simp] theorem a_kU4 (own : List Nat) (Q : QL) (acc) (ρ) : kU4 own Q acc ρ = Q acc (wipeR ρ own) := rfl
@[scoped simp] theorem a_kU3 (own own1 : List Nat) (inn : List D → Ro → List D → Option (List D × Ro)) (acc : List D) (Q : QL) (es) (ρ) : kU3 own own1 inn acc Q es ρ = Wp (inn es (wipeR ρ own1) acc) (kU4 own Q) := rfl
@[scoped simp] theorem a_kU2_true (own : List Nat) (it1 : E) (own1 : List Nat) (inn : List D → Ro → List D → Option (List D × Ro)) (acc : List D) (Q : QL) (ρ) : kU2 Γ gl own it1 own1 inn acc Q true ρ = Wp (evI Γ gl it1 ρ) (kU3 own own1 inn acc Q) := rfl
@[scoped simp] theorem a_kU2_false (own : List Nat) (it1 : E) (own1 : List Nat) (inn : List D → Ro → List D → Option (List D × Ro)) (acc : List D) (Q : QL) (ρ) : kU2 Γ gl own it1 own1 inn acc Q false ρ = Q acc (wipeR ρ own) := rfl
@[scoped simp] theorem a_kU1 (own : List Nat) (c it1 : E) (own1 : List Nat) (inn : List D → Ro → List D → Option (List D × Ro)) (acc : List D) (Q : QL) (ρ) : kU1 Γ gl own c it1 own1 inn acc Q ρ = Wp (evE Γ gl c ρ) (kTst (kU2 Γ gl own it1 own1 inn acc Q)) := rfl
@[scoped simp] theorem w_es_comp2 (elt : E) (g : G) (it c : E) (own : List Nat) (g1 : G) (it1 c1 : E) (own1 : List Nat) (es0 : List E) (ρ : Ro) (Q : QEs) : Wp (evEs Γ gl (E.comp2 elt g it c own g1 it1 c1 own1 :: es0) ρ) Q = Wp (evE Γ gl (E.comp2 elt g it c own g1 it1 c1 own1) ρ) (kEs1 Γ gl es0 Q) := w_esc _ _ _ _ rfl
end DT

end
section
/-! Plain law: the forms' tables and bodies, for simp (printed by gen_pl.py). -/
namespace DT
open PySem L2
@[scoped simp] theorem gle_words_in_NONE : gl_words_in "NONE" = some (.str "-") := rfl
@[scoped simp] theorem gle_test_in_BAR : gl_test_in "BAR" = some (.str " | ") := rfl
@[scoped simp] theorem gle_test_in_ANY : gl_test_in "ANY" = some (.str "any") := rfl
@[scoped simp] theorem gle_is_record_MOST_VALUE : gl_is_record "MOST_VALUE" = some (.int 2) := rfl
@[scoped simp] theorem gle_is_record_MOST_FIELDS : gl_is_record "MOST_FIELDS" = some (.int 5) := rfl
@[scoped simp] theorem gle_are_writes_MOST_FIELDS : gl_are_writes "MOST_FIELDS" = some (.int 5) := rfl
@[scoped simp] theorem gle_are_writes_MOST_VALUE : gl_are_writes "MOST_VALUE" = some (.int 2) := rfl
@[scoped simp] theorem gle_is_test_MOST_READS : gl_is_test "MOST_READS" = some (.int 3) := rfl
@[scoped simp] theorem gle_is_test_MOST_VALUE : gl_is_test "MOST_VALUE" = some (.int 2) := rfl
@[scoped simp] theorem gle_joined_NONE : gl_joined "NONE" = some (.str "-") := rfl
@[scoped simp] theorem gle_line_of_BAR : gl_line_of "BAR" = some (.str " | ") := rfl
@[scoped simp] theorem gle_line_of_ANY : gl_line_of "ANY" = some (.str "any") := rfl
@[scoped simp] theorem gle_text_of_HEAD : gl_text_of "HEAD" = some (.str "start ") := rfl
@[scoped simp] theorem gle_Suite_init_MOST_TESTS : gl_Suite_init "MOST_TESTS" = some (.int 6) := rfl
@[scoped simp] theorem gle_Suite_read_HEAD : gl_Suite_read "HEAD" = some (.str "start ") := rfl
@[scoped simp] theorem gle_Suite_read_MOST_TESTS : gl_Suite_read "MOST_TESTS" = some (.int 6) := rfl
@[scoped simp] theorem fm_numbers_in : F_numbers_in.modes = [.val] := rfl
theorem fr_numbers_in (ds : List D) : F_numbers_in.run ds = ((runFn (fun f => ([] : List Fn)[f]?) gl_numbers_in [.val] 2 B_numbers_in)) ds := rfl
@[scoped simp] theorem fm_words_in : F_words_in.modes = [.val] := rfl
theorem fr_words_in (ds : List D) : F_words_in.run ds = ((runFn (fun f => ([] : List Fn)[f]?) gl_words_in [.val] 1 B_words_in)) ds := rfl
@[scoped simp] theorem fm_test_in : F_test_in.modes = [.val] := rfl
theorem fr_test_in (ds : List D) : F_test_in.run ds = ((runFn (fun f => ([F_words_in, F_numbers_in] : List Fn)[f]?) gl_test_in [.val] 5 B_test_in)) ds := rfl
@[scoped simp] theorem fm_is_between : F_is_between.modes = [.val, .val, .val] := rfl
theorem fr_is_between (ds : List D) : F_is_between.run ds = ((runFn (fun f => ([] : List Fn)[f]?) gl_is_between [.val, .val, .val] 3 B_is_between)) ds := rfl
@[scoped simp] theorem fm_are_between : F_are_between.modes = [.val, .val, .val] := rfl
theorem fr_are_between (ds : List D) : F_are_between.run ds = ((runFn (fun f => ([F_is_between] : List Fn)[f]?) gl_are_between [.val, .val, .val] 4 B_are_between)) ds := rfl
@[scoped simp] theorem fm_is_record : F_is_record.modes = [.val] := rfl
theorem fr_is_record (ds : List D) : F_is_record.run ds = ((runFn (fun f => ([F_are_between] : List Fn)[f]?) gl_is_record [.val] 1 B_is_record)) ds := rfl
@[scoped simp] theorem fm_ascends : F_ascends.modes = [.val] := rfl
theorem fr_ascends (ds : List D) : F_ascends.run ds = ((runFn (fun f => ([] : List Fn)[f]?) gl_ascends [.val] 3 B_ascends)) ds := rfl
@[scoped simp] theorem fm_are_writes : F_are_writes.modes = [.val, .val] := rfl
theorem fr_are_writes (ds : List D) : F_are_writes.run ds = ((runFn (fun f => ([F_are_between, F_ascends] : List Fn)[f]?) gl_are_writes [.val, .val] 3 B_are_writes)) ds := rfl
@[scoped simp] theorem fm_is_test : F_is_test.modes = [.val, .val] := rfl
theorem fr_is_test (ds : List D) : F_is_test.run ds = ((runFn (fun f => ([F_are_writes, F_are_between, F_ascends] : List Fn)[f]?) gl_is_test [.val, .val] 5 B_is_test)) ds := rfl
@[scoped simp] theorem fm_joined : F_joined.modes = [.val] := rfl
theorem fr_joined (ds : List D) : F_joined.run ds = ((runFn (fun f => ([] : List Fn)[f]?) gl_joined [.val] 1 B_joined)) ds := rfl
@[scoped simp] theorem fm_line_of : F_line_of.modes = [.val] := rfl
theorem fr_line_of (ds : List D) : F_line_of.run ds = ((runFn (fun f => ([F_joined] : List Fn)[f]?) gl_line_of [.val] 9 B_line_of)) ds := rfl
@[scoped simp] theorem fm_text_of : F_text_of.modes = [.val, .val] := rfl
theorem fr_text_of (ds : List D) : F_text_of.run ds = ((runFn (fun f => ([F_joined, F_line_of] : List Fn)[f]?) gl_text_of [.val, .val] 6 B_text_of)) ds := rfl
@[scoped simp] theorem fm_Suite_mk : F_Suite_mk.modes = [] := rfl
theorem fr_Suite_mk (ds : List D) : F_Suite_mk.run ds = (mkRun (fun f => ([F_is_record, F_is_test] : List Fn)[f]?) gl_Suite_init 4 B_Suite_init "Suite") ds := rfl
@[scoped simp] theorem fm_Suite_read : F_Suite_read.modes = [.val, .val] := rfl
theorem fr_Suite_read (ds : List D) : F_Suite_read.run ds = ((clsRun "Suite" (runFn (fun f => ([F_numbers_in, F_test_in, F_is_record, F_is_test, F_text_of, F_Suite_mk] : List Fn)[f]?) gl_Suite_read [.val, .val] 8 B_Suite_read))) ds := rfl
@[scoped simp] theorem fm_need_suite : F_need_suite.modes = [.val] := rfl
theorem fr_need_suite (ds : List D) : F_need_suite.run ds = ((runFn (fun f => ([] : List Fn)[f]?) gl_need_suite [.val] 1 B_need_suite)) ds := rfl
@[scoped simp] theorem fm_are_numbers : F_are_numbers.modes = [.val, .val] := rfl
theorem fr_are_numbers (ds : List D) : F_are_numbers.run ds = ((runFn (fun f => ([F_is_between] : List Fn)[f]?) gl_are_numbers [.val, .val] 3 B_are_numbers)) ds := rfl
@[scoped simp] theorem fm_Suite_len : F_Suite_len.modes = [.val] := rfl
theorem fr_Suite_len (ds : List D) : F_Suite_len.run ds = ((insRun "Suite" (lenRun (runFn (fun f => ([] : List Fn)[f]?) gl_Suite_len [.val] 1 B_Suite_len)))) ds := rfl
@[scoped simp] theorem fm_need_row : F_need_row.modes = [.val, .val] := rfl
theorem fr_need_row (ds : List D) : F_need_row.run ds = ((runFn (fun f => ([F_need_suite, F_are_numbers, F_Suite_len] : List Fn)[f]?) gl_need_row [.val, .val] 2 B_need_row)) ds := rfl
@[scoped simp] theorem fm_Suite_start : F_Suite_start.modes = [.val] := rfl
theorem fr_Suite_start (ds : List D) : F_Suite_start.run ds = ((insRun "Suite" (runFn (fun f => ([] : List Fn)[f]?) gl_Suite_start [.val] 1 B_Suite_start))) ds := rfl
@[scoped simp] theorem fm_written : F_written.modes = [.val] := rfl
theorem fr_written (ds : List D) : F_written.run ds = ((runFn (fun f => ([] : List Fn)[f]?) gl_written [.val] 1 B_written)) ds := rfl
@[scoped simp] theorem fm_record_after : F_record_after.modes = [.val, .val] := rfl
theorem fr_record_after (ds : List D) : F_record_after.run ds = ((runFn (fun f => ([F_written] : List Fn)[f]?) gl_record_after [.val, .val] 5 B_record_after)) ds := rfl
@[scoped simp] theorem fm_Suite_getitem : F_Suite_getitem.modes = [.val, .val] := rfl
theorem fr_Suite_getitem (ds : List D) : F_Suite_getitem.run ds = ((insRun "Suite" (runFn (fun f => ([F_is_between] : List Fn)[f]?) gl_Suite_getitem [.val, .val] 2 B_Suite_getitem))) ds := rfl
@[scoped simp] theorem fm_behind : F_behind.modes = [.val, .val] := rfl
theorem fr_behind (ds : List D) : F_behind.run ds = ((runFn (fun f => ([F_Suite_start, F_record_after, F_Suite_getitem] : List Fn)[f]?) gl_behind [.val, .val] 4 B_behind)) ds := rfl
@[scoped simp] theorem fm_record_behind : F_record_behind.modes = [.val, .val] := rfl
theorem fr_record_behind (ds : List D) : F_record_behind.run ds = ((runFn (fun f => ([F_need_row, F_behind] : List Fn)[f]?) gl_record_behind [.val, .val] 2 B_record_behind)) ds := rfl
@[scoped simp] theorem fm_Suite_text : F_Suite_text.modes = [.val] := rfl
theorem fr_Suite_text (ds : List D) : F_Suite_text.run ds = ((insRun "Suite" (runFn (fun f => ([F_text_of] : List Fn)[f]?) gl_Suite_text [.val] 1 B_Suite_text))) ds := rfl
@[scoped simp] theorem gle_Suite_add_Suite : gl_Suite_add "Suite" = some (.cls "Suite") := rfl
@[scoped simp] theorem fm_need_number : F_need_number.modes = [.val, .val] := rfl
theorem fr_need_number (ds : List D) : F_need_number.run ds = ((runFn (fun f => ([F_need_suite, F_is_between, F_Suite_len] : List Fn)[f]?) gl_need_number [.val, .val] 2 B_need_number)) ds := rfl
@[scoped simp] theorem fm_is_row_of_others : F_is_row_of_others.modes = [.val, .val, .val] := rfl
theorem fr_is_row_of_others (ds : List D) : F_is_row_of_others.run ds = ((runFn (fun f => ([F_are_numbers, F_Suite_len] : List Fn)[f]?) gl_is_row_of_others [.val, .val, .val] 3 B_is_row_of_others)) ds := rfl
@[scoped simp] theorem fm_need_others : F_need_others.modes = [.val, .val, .val] := rfl
theorem fr_need_others (ds : List D) : F_need_others.run ds = ((runFn (fun f => ([F_need_number, F_is_row_of_others] : List Fn)[f]?) gl_need_others [.val, .val, .val] 3 B_need_others)) ds := rfl
@[scoped simp] theorem fm_values_at : F_values_at.modes = [.val, .val] := rfl
theorem fr_values_at (ds : List D) : F_values_at.run ds = ((runFn (fun f => ([] : List Fn)[f]?) gl_values_at [.val, .val] 3 B_values_at)) ds := rfl
@[scoped simp] theorem fm_passes_at : F_passes_at.modes = [.val, .val] := rfl
theorem fr_passes_at (ds : List D) : F_passes_at.run ds = ((runFn (fun f => ([F_values_at] : List Fn)[f]?) gl_passes_at [.val, .val] 2 B_passes_at)) ds := rfl
@[scoped simp] theorem fm_verdict_of : F_verdict_of.modes = [.val, .val, .val] := rfl
theorem fr_verdict_of (ds : List D) : F_verdict_of.run ds = ((runFn (fun f => ([F_passes_at, F_behind, F_Suite_getitem] : List Fn)[f]?) gl_verdict_of [.val, .val, .val] 3 B_verdict_of)) ds := rfl
@[scoped simp] theorem fm_verdict : F_verdict.modes = [.val, .val, .val] := rfl
theorem fr_verdict (ds : List D) : F_verdict.run ds = ((runFn (fun f => ([F_need_others, F_verdict_of] : List Fn)[f]?) gl_verdict [.val, .val, .val] 3 B_verdict)) ds := rfl
@[scoped simp] theorem fm_does_write : F_does_write.modes = [.val, .val, .val] := rfl
theorem fr_does_write (ds : List D) : F_does_write.run ds = ((runFn (fun f => ([F_Suite_getitem] : List Fn)[f]?) gl_does_write [.val, .val, .val] 4 B_does_write)) ds := rfl
@[scoped simp] theorem fm_last_writer : F_last_writer.modes = [.val, .val, .val] := rfl
theorem fr_last_writer (ds : List D) : F_last_writer.run ds = ((runFn (fun f => ([F_does_write] : List Fn)[f]?) gl_last_writer [.val, .val, .val] 5 B_last_writer)) ds := rfl
@[scoped simp] theorem fm_sources_of : F_sources_of.modes = [.val, .val, .val] := rfl
theorem fr_sources_of (ds : List D) : F_sources_of.run ds = ((runFn (fun f => ([F_Suite_getitem, F_last_writer] : List Fn)[f]?) gl_sources_of [.val, .val, .val] 4 B_sources_of)) ds := rfl
@[scoped simp] theorem fm_sources : F_sources.modes = [.val, .val, .val] := rfl
theorem fr_sources (ds : List D) : F_sources.run ds = ((runFn (fun f => ([F_need_others, F_sources_of] : List Fn)[f]?) gl_sources [.val, .val, .val] 3 B_sources)) ds := rfl
@[scoped simp] theorem fm_verdicts_of : F_verdicts_of.modes = [.val, .val, .val] := rfl
theorem fr_verdicts_of (ds : List D) : F_verdicts_of.run ds = ((runFn (fun f => ([F_passes_at, F_record_after] : List Fn)[f]?) gl_verdicts_of [.val, .val, .val] 5 B_verdicts_of)) ds := rfl
@[scoped simp] theorem fm_Suite_call : F_Suite_call.modes = [.val, .val] := rfl
theorem fr_Suite_call (ds : List D) : F_Suite_call.run ds = ((insRun "Suite" (runFn (fun f => ([F_are_numbers, F_verdicts_of] : List Fn)[f]?) gl_Suite_call [.val, .val] 2 B_Suite_call))) ds := rfl
@[scoped simp] theorem fm_Suite_tests : F_Suite_tests.modes = [.val] := rfl
theorem fr_Suite_tests (ds : List D) : F_Suite_tests.run ds = ((insRun "Suite" (runFn (fun f => ([] : List Fn)[f]?) gl_Suite_tests [.val] 1 B_Suite_tests))) ds := rfl
@[scoped simp] theorem fm_turned : F_turned.modes = [.val, .val] := rfl
theorem fr_turned (ds : List D) : F_turned.run ds = ((runFn (fun f => ([F_Suite_len, F_verdict_of] : List Fn)[f]?) gl_turned [.val, .val] 5 B_turned)) ds := rfl
@[scoped simp] theorem fm_spoilers : F_spoilers.modes = [.val] := rfl
theorem fr_spoilers (ds : List D) : F_spoilers.run ds = ((runFn (fun f => ([F_need_suite, F_turned] : List Fn)[f]?) gl_spoilers [.val] 1 B_spoilers)) ds := rfl
@[scoped simp] theorem fm_helpers : F_helpers.modes = [.val] := rfl
theorem fr_helpers (ds : List D) : F_helpers.run ds = ((runFn (fun f => ([F_need_suite, F_turned] : List Fn)[f]?) gl_helpers [.val] 1 B_helpers)) ds := rfl
@[scoped simp] theorem fm_Suite_add : F_Suite_add.modes = [.val, .val] := rfl
theorem fr_Suite_add (ds : List D) : F_Suite_add.run ds = ((addRun "Suite" (runFn (fun f => ([F_Suite_mk] : List Fn)[f]?) gl_Suite_add [.val, .val] 2 B_Suite_add))) ds := rfl
@[scoped simp] theorem fm_parts_of : F_parts_of.modes = [.val] := rfl
theorem fr_parts_of (ds : List D) : F_parts_of.run ds = ((runFn (fun f => ([] : List Fn)[f]?) gl_parts_of [.val] 4 B_parts_of)) ds := rfl
@[scoped simp] theorem fm_blamed : F_blamed.modes = [.val, .val, .val] := rfl
theorem fr_blamed (ds : List D) : F_blamed.run ds = ((runFn (fun f => ([F_need_others, F_verdict_of, F_parts_of] : List Fn)[f]?) gl_blamed [.val, .val, .val] 6 B_blamed)) ds := rfl
end DT

end
section
/-! Plain law: the program's small defs. -/
namespace DT
open PySem L2
abbrev intsT (l : List Int) : D := .tup (l.map .int)
/-- a test: what it writes, reads, and where it fails -/
structure TT where
  w : List (Int × Int)
  rd : List Int
  fl : List (List Int)
abbrev pairT (p : Int × Int) : D := .tup [.int p.1, .int p.2]
abbrev TT.d (t : TT) : D := .tup [.tup (t.w.map pairT), intsT t.rd, .tup (t.fl.map intsT)]
/-- a right test on n fields -/
structure TOk (n : Nat) (t : TT) : Prop where
  w1 : ∀ p ∈ t.w, 0 ≤ p.1 ∧ p.1 < n ∧ 0 ≤ p.2 ∧ p.2 ≤ 2
  w2 : (t.w.map (·.1)).Pairwise (· < ·)
  r1 : ∀ i ∈ t.rd, 0 ≤ i ∧ i < n
  r2 : t.rd.Pairwise (· < ·)
  r3 : t.rd.length ≤ 3
  f1 : ∀ v ∈ t.fl, (∀ i ∈ v, 0 ≤ i ∧ i ≤ 2) ∧ v.length = t.rd.length
  f2 : t.fl.Pairwise fun a b => HT.lexLt a b = true
  f3 : t.fl.length ≤ 27
  w3 : t.w.length ≤ 5
structure SOk (s : List Int) (ts : List TT) : Prop where
  s1 : ∀ i ∈ s, 0 ≤ i ∧ i ≤ 2
  s2 : 1 ≤ s.length
  s3 : s.length ≤ 5
  t1 : ∀ t ∈ ts, TOk s.length t
  t2 : ts.length ≤ 6
@[scoped simp] theorem all_yes {α : Type} (l : List α) : (l.all fun _ => true) = true := by induction l <;> simp_all
theorem run_is_between (i lo hi : Int) : F_is_between.run [.int i, .int lo, .int hi] = some (.val (.bl (decide (lo ≤ i) && decide (i ≤ hi))), []) := by
  refine Wp.eq ?_
  rw [fr_is_between]; unfold B_is_between
  simp
  by_cases h : lo ≤ i <;> simp [h]
theorem run_are_between {l : List Int} {lo hi : Int} (h : ∀ i ∈ l, lo ≤ i ∧ i ≤ hi) (hl : l.length ≤ big) : F_are_between.run [intsT l, .int lo, .int hi] = some (.val (.bl true), []) := by
  refine Wp.eq ?_
  rw [fr_are_between]; unfold B_are_between
  simp
  refine wp_map D.int (fun i => .bl true) (fun i hi => ?_) hl ?_
  · simp [run_is_between, h i hi]
  · simp
theorem run_is_record {l : List Int} (h : ∀ i ∈ l, 0 ≤ i ∧ i ≤ 2) (h1 : 1 ≤ l.length) (h2 : l.length ≤ 5) : F_is_record.run [intsT l] = some (.val (.bl true), []) := by
  refine Wp.eq ?_
  rw [fr_is_record]; unfold B_is_record
  simp [run_are_between h (by unfold big; omega)]
  have e1 : (1 : Int) ≤ (l.length : Int) := by omega
  have e2 : (l.length : Int) ≤ 5 := by omega
  simp [e1, e2]
/-! ascends -/
def asc : List D → Prop
  | a :: b :: r => cmp2 .lt a b = some true ∧ asc (b :: r)
  | _ => True
theorem cutD_1 {α : Type} (l : List α) : cutD l (some 1) none = l.drop 1 := by
  unfold cutD HT.sIx
  simp
  cases l <;> simp
theorem asc_zip : ∀ {l : List D}, asc l → ∀ d ∈ zipD l (l.drop 1), ∃ a b, d = .tup [a, b] ∧ cmp2 .lt a b = some true
  | [], _, d, hd => by simp [zipD] at hd
  | [a], _, d, hd => by simp [zipD] at hd
  | a :: b :: r, h, d, hd => by
    have hd : d ∈ D.tup [a, b] :: zipD (b :: r) r := by simpa [zipD] using hd
    rcases List.mem_cons.mp hd with e | e
    · exact ⟨a, b, e, h.1⟩
    · exact asc_zip (l := b :: r) h.2 d (by simpa using e)
theorem zipD_le (a b : List D) : (zipD a b).length ≤ a.length := by rw [zipD_len]; exact Nat.min_le_left _ _
theorem asc_ints {l : List Int} (h : l.Pairwise (· < ·)) : asc (l.map .int) := by
  induction l with
  | nil => trivial
  | cons x l ih =>
    cases l with
    | nil => trivial
    | cons y l =>
      have h2 := List.pairwise_cons.mp h
      exact ⟨by simp [h2.1 y (List.mem_cons_self ..)], ih h2.2⟩
theorem asc_tups {l : List (List Int)} (h : l.Pairwise fun a b => HT.lexLt a b = true) : asc (l.map intsT) := by
  induction l with
  | nil => trivial
  | cons x l ih =>
    cases l with
    | nil => trivial
    | cons y l =>
      have h2 := List.pairwise_cons.mp h
      exact ⟨by rw [lt_tup, h2.1 y (List.mem_cons_self ..)], ih h2.2⟩
theorem run_ascends_t {l : List D} (h : asc l) (hl : l.length ≤ big) : F_ascends.run [.tup l] = some (.val (.bl true), []) := by
  refine Wp.eq ?_
  rw [fr_ascends]; unfold B_ascends
  simp [cutD_1]
  refine wp_mapD (fun _ => .bl true) (fun d hd => ?_) (Nat.le_trans (zipD_le _ _) hl) ?_
  · obtain ⟨a, b, rfl, e⟩ := asc_zip h d (by simpa using hd)
    simp [e]
  · have e := boolsD_map (fun _ : D => true) (zipD l l.tail)
    simp [e]
theorem run_ascends_l {l : List D} (h : asc l) (hl : l.length ≤ big) : F_ascends.run [.lst l] = some (.val (.bl true), []) := by
  refine Wp.eq ?_
  rw [fr_ascends]; unfold B_ascends
  simp [cutD_1]
  refine wp_mapD (fun _ => .bl true) (fun d hd => ?_) (Nat.le_trans (zipD_le _ _) hl) ?_
  · obtain ⟨a, b, rfl, e⟩ := asc_zip h d (by simpa using hd)
    simp [e]
  · have e := boolsD_map (fun _ : D => true) (zipD l l.tail)
    simp [e]
@[scoped simp] theorem atI_0 {α : Type} (a : α) (l : List α) : atI (a :: l) 0 = some a := by unfold atI ixN; simp
@[scoped simp] theorem atI_1 {α : Type} (a b : α) (l : List α) : atI (a :: b :: l) 1 = some b := by
  have e : (1 : Int) < (l.length : Int) + 1 + 1 := by omega
  unfold atI ixN; simp [e]
@[scoped simp] theorem atI_2 {α : Type} (a b c : α) (l : List α) : atI (a :: b :: c :: l) 2 = some c := by
  have e : (2 : Int) < (l.length : Int) + 1 + 1 + 1 := by omega
  unfold atI ixN; simp [e]
theorem run_are_writes {n : Nat} {w : List (Int × Int)} (h1 : ∀ p ∈ w, 0 ≤ p.1 ∧ p.1 < n ∧ 0 ≤ p.2 ∧ p.2 ≤ 2) (h2 : (w.map (·.1)).Pairwise (· < ·)) (h3 : w.length ≤ 5) (hn : n ≤ 5) : F_are_writes.run [.tup (w.map pairT), .int n] = some (.val (.bl true), []) := by
  refine Wp.eq ?_
  rw [fr_are_writes]; unfold B_are_writes
  simp
  refine wp_map (l := w) pairT (fun i => .bl true) (fun p hp => ?_) (by unfold big; omega) ?_
  · have q := h1 p hp
    have e := run_are_between (l := [p.1, p.2]) (lo := 0) (hi := 5) (by simp; omega) (by simp [big])
    simp [intsT] at e
    simp [e]
  · simp
    refine wp_map (l := w) pairT (fun i => .bl true) (fun p hp => ?_) (by unfold big; omega) ?_
    · have q := h1 p hp
      simp [q]
    · simp
      refine wp_map (l := w) pairT (fun p => .int p.1) (fun p hp => ?_) (by unfold big; omega) ?_
      · simp
      · simp
        have e := run_ascends_l (asc_ints h2) (by simp [big]; omega)
        simp [Function.comp_def] at e
        simp [e]
theorem run_is_test {n : Nat} {t : TT} (h : TOk n t) (hn : n ≤ 5) : F_is_test.run [t.d, .int n] = some (.val (.bl true), []) := by
  refine Wp.eq ?_
  rw [fr_is_test]; unfold B_is_test
  simp
  refine Wp.rw (run_are_writes h.w1 h.w2 h.w3 hn) ?_
  simp [cutD_1]
  refine Wp.rw (run_are_between (fun i hi => ?_) ?_) ?_
  · have := h.r1 i hi; omega
  · have := h.r3; unfold big; omega
  · have r3 : ¬ ((3 : Int) < (t.rd.length : Int)) := by have := h.r3; omega
    simp [r3]
    refine Wp.rw (run_ascends_t (asc_ints h.r2) (by have := h.r3; simp [big]; omega)) ?_
    simp
    refine wp_map (l := t.fl) intsT (fun v => .bl true) (fun v hv => ?_) (by have := h.f3; unfold big; omega) ?_
    · simp
      refine Wp.rw (run_are_between (h.f1 v hv).1 (by have := (h.f1 v hv).2; have := h.r3; unfold big; omega)) ?_
      simp
    · simp
      refine wp_map (l := t.fl) intsT (fun v => .bl true) (fun v hv => ?_) (by have := h.f3; unfold big; omega) ?_
      · simp [(h.f1 v hv).2]
      · simp
        refine Wp.rw (run_ascends_t (asc_tups h.f2) (by have := h.f3; simp [big]; omega)) ?_
        simp
end DT

end
section
/-! Plain law: texts of suites. -/
namespace DT
open PySem L2 SX
/-! ### words, lines, texts by their signs -/
abbrev dig (v : Int) : List Nat := [48 + v.toNat]
def joinSp (ws : List (List Nat)) : List Nat := if ws = [] then [45] else TL.joinL [32] ws
def wWord (p : Int × Int) : List Nat := [48 + p.1.toNat, 61, 48 + p.2.toNat]
def fWord (v : List Int) : List Nat := (v.map dig).flatten
def third (fl : List (List Int)) : List Nat := if fl = [[]] then [97, 110, 121] else joinSp (fl.map fWord)
def lineC (t : TT) : List Nat := joinSp (t.w.map wWord) ++ ([32, 124, 32] ++ (joinSp (t.rd.map dig) ++ ([32, 124, 32] ++ third t.fl)))
def headC (s : List Int) : List Nat := [115, 116, 97, 114, 116, 32] ++ TL.joinL [32] (s.map dig)
def linesC (s : List Int) (ts : List TT) : List (List Nat) := headC s :: ts.map lineC
def textC (s : List Int) (ts : List TT) : List Nat := TL.joinL [10] (linesC s ts) ++ [10]

theorem intText_dig {v : Int} (h0 : 0 ≤ v) (h1 : v ≤ 9) : intText v = SX.S (dig v) := by
  have : v = 0 ∨ v = 1 ∨ v = 2 ∨ v = 3 ∨ v = 4 ∨ v = 5 ∨ v = 6 ∨ v = 7 ∨ v = 8 ∨ v = 9 := by omega
  rcases this with rfl | rfl | rfl | rfl | rfl | rfl | rfl | rfl | rfl | rfl <;> rfl
@[scoped simp] theorem lit_sp : (" " : Str) = SX.S [32] := rfl
@[scoped simp] theorem lit_no : ("-" : Str) = SX.S [45] := rfl
@[scoped simp] theorem lit_bar : (" | " : Str) = SX.S [32, 124, 32] := rfl
@[scoped simp] theorem lit_any : ("any" : Str) = SX.S [97, 110, 121] := rfl
@[scoped simp] theorem lit_eq : ("=" : Str) = SX.S [61] := rfl
@[scoped simp] theorem lit_e : ("" : Str) = SX.S [] := rfl
@[scoped simp] theorem lit_nl : ("\n" : Str) = SX.S [10] := rfl
@[scoped simp] theorem lit_head : ("start " : Str) = SX.S [115, 116, 97, 114, 116, 32] := rfl
@[scoped simp] theorem lit_empty : Str.empty = SX.S [] := rfl

/-! signs that are small -/
abbrev sm (l : List Nat) : Prop := ∀ c ∈ l, c < 128
theorem sm_ok {l : List Nat} (h : sm l) : PyData.strOk (SX.S l) = true := by
  unfold PyData.strOk
  rw [← Array.all_toList]
  exact List.all_eq_true.mpr fun c hc => decide_eq_true (Nat.lt_trans (h c hc) (by decide))
theorem eqD_S {a b : List Nat} (ha : sm a) (hb : sm b) : eqD (.str (SX.S a)) (.str (SX.S b)) = some (decide (a = b)) := by
  rw [eqD_str (sm_ok ha) (sm_ok hb), S_beq_eq]
theorem mem_joinL {c : Nat} {sep : List Nat} : ∀ {ws : List (List Nat)}, c ∈ TL.joinL sep ws → c ∈ sep ∨ ∃ w ∈ ws, c ∈ w
  | [], h => by simp [TL.joinL] at h
  | [p], h => .inr ⟨p, List.mem_cons_self .., by simpa [TL.joinL] using h⟩
  | p :: q :: r, h => by
    unfold TL.joinL at h
    rcases List.mem_append.mp h with h | h
    · exact .inr ⟨p, List.mem_cons_self .., h⟩
    · rcases List.mem_append.mp h with h | h
      · exact .inl h
      · rcases mem_joinL h with h | ⟨w, hw, hc⟩
        · exact .inl h
        · exact .inr ⟨w, List.mem_cons_of_mem _ hw, hc⟩
theorem joinL_len {sep : List Nat} {k : Nat} : ∀ {ws : List (List Nat)}, (∀ w ∈ ws, w.length ≤ k) → (TL.joinL sep ws).length ≤ ws.length * (k + sep.length)
  | [], h => by simp [TL.joinL]
  | [p], h => by
    have := h p (List.mem_cons_self ..)
    simp [TL.joinL]; omega
  | p :: q :: r, h => by
    have h1 := h p (List.mem_cons_self ..)
    have h2 := joinL_len (sep := sep) (k := k) (ws := q :: r) (fun w hw => h w (List.mem_cons_of_mem _ hw))
    unfold TL.joinL
    rw [List.length_append, List.length_append, List.length_cons, Nat.succ_mul]
    omega
theorem sum_le {k : Nat} {α : Type} (f : α → Nat) : ∀ {ws : List α}, (∀ w ∈ ws, f w ≤ k) → (ws.map f).sum ≤ ws.length * k
  | [], h => by simp
  | p :: r, h => by
    have h1 := h p (List.mem_cons_self ..)
    have h2 := sum_le f (k := k) (ws := r) (fun w hw => h w (List.mem_cons_of_mem _ hw))
    rw [List.map_cons, List.sum_cons, List.length_cons, Nat.succ_mul]
    omega
theorem mem_joinSp {c : Nat} {ws : List (List Nat)} (h : c ∈ joinSp ws) : c = 45 ∨ c = 32 ∨ ∃ w ∈ ws, c ∈ w := by
  unfold joinSp at h
  split at h
  · exact .inl (by simpa using h)
  · rcases mem_joinL h with h | h
    · exact .inr (.inl (by simpa using h))
    · exact .inr (.inr h)
theorem joinSp_len {k : Nat} {ws : List (List Nat)} (h : ∀ w ∈ ws, w.length ≤ k) : (joinSp ws).length ≤ ws.length * (k + 1) + 1 := by
  unfold joinSp
  split
  · simp
  · have := joinL_len (sep := [32]) h
    simp at this
    omega
theorem joinL_nil : ∀ ls : List (List Nat), TL.joinL [] ls = ls.flatten
  | [] => rfl
  | [p] => by simp [TL.joinL]
  | p :: q :: r => by
    unfold TL.joinL
    rw [joinL_nil (q :: r)]
    simp
theorem joinL_nl : ∀ {ls : List (List Nat)}, ls ≠ [] → (ls.map (· ++ [10])).flatten = TL.joinL [10] ls ++ [10]
  | [], h => absurd rfl h
  | [p], _ => by simp [TL.joinL]
  | p :: q :: r, _ => by
    unfold TL.joinL
    rw [List.map_cons, List.flatten_cons, joinL_nl (ls := q :: r) (by simp)]
    simp
/-- joining with a text -/
theorem join_1 {sep : List Nat} {α : Type} (f : α → List Nat) (l : List α) : Txt.join (SX.S sep) (l.map fun a => SX.S (f a)) = SX.S (TL.joinL sep (l.map f)) := by
  rw [← join_S, List.map_map]
  rfl

/-! ### numbers_in, words_in -/
def sgn (w : List Nat) : Int := (T_SIGNS.lookup (SX.S w)).getD (-1)
theorem sgn_dig {v : Int} (h0 : 0 ≤ v) (h1 : v ≤ 4) : sgn (dig v) = v := by
  have : v = 0 ∨ v = 1 ∨ v = 2 ∨ v = 3 ∨ v = 4 := by omega
  rcases this with rfl | rfl | rfl | rfl | rfl <;> rfl
theorem run_numbers_in {ws : List (List Nat)} (h : ws.length ≤ big) : F_numbers_in.run [.lst (ws.map fun w => .str (SX.S w))] = some (.val (intsT (ws.map sgn)), []) := by
  refine Wp.eq ?_
  rw [fr_numbers_in]; unfold B_numbers_in
  simp
  refine wp_map (l := ws) (fun w => D.str (SX.S w)) (fun w => .int (sgn w)) (fun w hw => ?_) h ?_
  · simp [sgn]
  · simp [Function.comp_def]
theorem run_words_none : F_words_in.run [.str (SX.S [45])] = some (.own [], []) := by
  refine Wp.eq ?_
  rw [fr_words_in]; unfold B_words_in
  have e := eqD_S (a := [45]) (b := [45]) (by decide) (by decide)
  simp [e]
theorem run_words_in {p : List Nat} (hs : sm p) (h : p ≠ [45]) (hl : p.length ≤ big) : F_words_in.run [.str (SX.S p)] = some (.own ((TL.spl [32] 0 [] p).map fun w => .str (SX.S w)), []) := by
  refine Wp.eq ?_
  rw [fr_words_in]; unfold B_words_in
  have e := eqD_S hs (b := [45]) (by decide)
  simp [e, h, S_len, hl, split_S, Function.comp_def]
theorem run_words_join {ws : List (List Nat)} (hs : ∀ w ∈ ws, sm w ∧ 32 ∉ w ∧ 45 ∉ w) (hl : (joinSp ws).length ≤ big) : F_words_in.run [.str (SX.S (joinSp ws))] = some (.own (ws.map fun w => .str (SX.S w)), []) := by
  by_cases h : ws = []
  · subst h
    exact run_words_none
  · have sm1 : sm (joinSp ws) := fun c hc => by
      rcases mem_joinSp hc with rfl | rfl | ⟨w, hw, hc⟩
      · decide
      · decide
      · exact (hs w hw).1 c hc
    have e : joinSp ws = TL.joinL [32] ws := if_neg h
    have ne : joinSp ws ≠ [45] := fun q => by
      rw [e] at q
      have z : 45 ∈ TL.joinL [32] ws := by rw [q]; simp
      rcases mem_joinL z with z | ⟨w, hw, hc⟩
      · simp at z
      · exact (hs w hw).2.2 hc
    rw [run_words_in sm1 ne hl, e, spl_join h fun w hw => (hs w hw).2.1]
end DT

end
section
/-! Plain law: a line, a text, read and written. -/
namespace DT
open PySem L2
/-! ### splitting at the bar -/
theorem pre_no {l : List Nat} (h : 124 ∉ l) : TL.pre [32, 124, 32] l = false := by
  unfold TL.pre
  cases q : l.take [32, 124, 32].length == [32, 124, 32] with
  | false => rfl
  | true =>
    have e := eq_of_beq q
    have m : 124 ∈ l.take [32, 124, 32].length := by rw [e]; simp
    exact absurd (List.mem_of_mem_take m) h
theorem free_bar : ∀ {p : List Nat}, 124 ∉ p → SX.free [32, 124, 32] p = true
  | [], _ => rfl
  | c :: r, h => by
    have hr : 124 ∉ r := fun m => h (List.mem_cons_of_mem _ m)
    show (!(TL.pre [32, 124, 32] (c :: (r ++ [32, 124, 32]))) && SX.free [32, 124, 32] r) = true
    rw [free_bar hr, Bool.and_true]
    cases r with
    | nil => unfold TL.pre; simp
    | cons d r => 
      have : d ≠ 124 := fun e => hr (by rw [e]; exact List.mem_cons_self ..)
      unfold TL.pre; simp [this]
theorem split_bar {a b c : List Nat} (ha : 124 ∉ a) (hb : 124 ∉ b) (hc : 124 ∉ c) : Txt.split (SX.S (a ++ ([32, 124, 32] ++ (b ++ ([32, 124, 32] ++ c))))) (SX.S [32, 124, 32]) = [SX.S a, SX.S b, SX.S c] := by
  rw [SX.split_S (by simp) (by decide), SX.spl_free _ (by simp) (free_bar ha), SX.spl_free _ (by simp) (free_bar hb), TL.spl_last fun i _ => pre_no fun m => hc (List.mem_of_mem_drop m)]
  simp

/-! ### which signs there are -/
/-- the signs of numbers -/
abbrev dg (c : Nat) : Prop := 48 ≤ c ∧ c ≤ 57
theorem dig_dg {v : Int} (h0 : 0 ≤ v) (h1 : v ≤ 9) : ∀ c ∈ dig v, dg c := fun c hc => by
  have : c = 48 + v.toNat := by simpa using hc
  unfold dg; omega
theorem wWord_dg {p : Int × Int} (h : 0 ≤ p.1 ∧ p.1 ≤ 9 ∧ 0 ≤ p.2 ∧ p.2 ≤ 9) : ∀ c ∈ wWord p, dg c ∨ c = 61 := fun c hc => by
  have : c = 48 + p.1.toNat ∨ c = 61 ∨ c = 48 + p.2.toNat := by simpa [wWord] using hc
  unfold dg; omega
theorem fWord_dg {v : List Int} (h : ∀ i ∈ v, 0 ≤ i ∧ i ≤ 2) : ∀ c ∈ fWord v, dg c := fun c hc => by
  obtain ⟨w, hw, hc⟩ := List.mem_flatten.mp hc
  obtain ⟨i, hi, rfl⟩ := List.mem_map.mp hw
  exact dig_dg (h i hi).1 (by have := (h i hi).2; omega) c hc
theorem fWord_len (v : List Int) : (fWord v).length = v.length := by
  induction v with
  | nil => rfl
  | cons x v ih => unfold fWord at *; simp [ih]
variable {n : Nat} {t : TT}
theorem TOk.ws (h : TOk n t) (hn : n ≤ 5) : ∀ w ∈ t.w.map wWord, ∀ c ∈ w, dg c ∨ c = 61 := fun w hw c hc => by
  obtain ⟨p, hp, rfl⟩ := List.mem_map.mp hw
  have := h.w1 p hp
  exact wWord_dg (by omega) c hc
theorem TOk.rs (h : TOk n t) (hn : n ≤ 5) : ∀ w ∈ t.rd.map dig, ∀ c ∈ w, dg c := fun w hw c hc => by
  obtain ⟨p, hp, rfl⟩ := List.mem_map.mp hw
  have := h.r1 p hp
  exact dig_dg (by omega) (by omega) c hc
theorem TOk.fs (h : TOk n t) : ∀ w ∈ t.fl.map fWord, ∀ c ∈ w, dg c := fun w hw c hc => by
  obtain ⟨p, hp, rfl⟩ := List.mem_map.mp hw
  exact fWord_dg (h.f1 p hp).1 c hc
/-- what a part of a line is made of -/
theorem joinSp_dg {ws : List (List Nat)} (h : ∀ w ∈ ws, ∀ c ∈ w, dg c ∨ c = 61) : ∀ c ∈ joinSp ws, dg c ∨ c = 61 ∨ c = 45 ∨ c = 32 := fun c hc => by
  rcases mem_joinSp hc with e | e | ⟨w, hw, hc⟩
  · exact .inr (.inr (.inl e))
  · exact .inr (.inr (.inr e))
  · rcases h w hw c hc with e | e
    · exact .inl e
    · exact .inr (.inl e)
theorem TOk.third (h : TOk n t) : ∀ c ∈ third t.fl, dg c ∨ c = 61 ∨ c = 45 ∨ c = 32 ∨ c = 97 ∨ c = 110 ∨ c = 121 := fun c hc => by
  unfold DT.third at hc
  split at hc
  · have : c = 97 ∨ c = 110 ∨ c = 121 := by simpa using hc
    omega
  · rcases joinSp_dg (fun w hw c hc => .inl (h.fs w hw c hc)) c hc with e | e | e | e <;> unfold dg at * <;> omega
theorem TOk.w_len (h : TOk n t) : (joinSp (t.w.map wWord)).length ≤ 21 := by
  have := joinSp_len (k := 3) (ws := t.w.map wWord) (fun w hw => by
    obtain ⟨p, hp, rfl⟩ := List.mem_map.mp hw
    simp [wWord])
  have := h.w3
  simp at *
  omega
theorem TOk.r_len (h : TOk n t) : (joinSp (t.rd.map dig)).length ≤ 7 := by
  have := joinSp_len (k := 1) (ws := t.rd.map dig) (fun w hw => by
    obtain ⟨p, hp, rfl⟩ := List.mem_map.mp hw
    simp)
  have := h.r3
  simp at *
  omega
theorem TOk.f_len (h : TOk n t) : (joinSp (t.fl.map fWord)).length ≤ 109 := by
  have := joinSp_len (k := 3) (ws := t.fl.map fWord) (fun w hw => by
    obtain ⟨p, hp, rfl⟩ := List.mem_map.mp hw
    rw [fWord_len, (h.f1 p hp).2]
    exact h.r3)
  have := h.f3
  simp at *
  omega
theorem TOk.t_len (h : TOk n t) : (DT.third t.fl).length ≤ 109 := by
  unfold DT.third
  split
  · simp
  · exact h.f_len
theorem TOk.l_len (h : TOk n t) : (lineC t).length ≤ 143 := by
  have := h.w_len
  have := h.r_len
  have := h.t_len
  unfold lineC
  simp
  omega
theorem TOk.l_dg (h : TOk n t) (hn : n ≤ 5) : ∀ c ∈ lineC t, 32 ≤ c ∧ c < 128 := fun c hc => by
  unfold lineC at hc
  have a := joinSp_dg (h.ws hn) c
  have b := joinSp_dg (fun w hw c hc => .inl (h.rs hn w hw c hc)) c
  have d := h.third c
  simp only [List.mem_append] at hc
  have q : ∀ c, c ∈ [32, 124, 32] → c = 32 ∨ c = 124 := by simp
  rcases hc with hc | hc | hc | hc | hc
  · have := a hc; unfold dg at this; omega
  · have := q c hc; omega
  · have := b hc; unfold dg at this; omega
  · have := q c hc; omega
  · have := d hc; unfold dg at this; omega
theorem map_sgn {l : List Int} (h : ∀ i ∈ l, 0 ≤ i ∧ i ≤ 4) : (l.map dig).map sgn = l := by
  rw [List.map_map]
  conv => rhs; rw [← List.map_id l]
  exact List.map_congr_left fun i hi => sgn_dig (h i hi).1 (h i hi).2
theorem signs_f (v : List Int) : signs (SX.S (fWord v)) = (v.map dig).map fun w => D.str (SX.S w) := by
  unfold signs fWord
  show ((v.map dig).flatten).map _ = _
  induction v with
  | nil => rfl
  | cons x v ih => 
    simp only [List.map_cons, List.flatten_cons, List.map_append, ih]
    rfl
theorem run_numbers_dig {l : List Int} (h : ∀ i ∈ l, 0 ≤ i ∧ i ≤ 4) (hl : l.length ≤ big) : F_numbers_in.run [.lst (l.map fun i => D.str (SX.S (dig i)))] = some (.val (intsT l), []) := by
  have z := run_numbers_in (ws := l.map dig) (by simpa using hl)
  rw [map_sgn h, List.map_map] at z
  exact z
theorem run_test_in (h : TOk n t) (hn : n ≤ 5) : F_test_in.run [.str (SX.S (lineC t))] = some (.val t.d, []) := by
  refine Wp.eq ?_
  rw [fr_test_in]; unfold B_test_in
  have hA := joinSp_dg (h.ws hn)
  have hB := joinSp_dg (fun w hw c hc => .inl (h.rs hn w hw c hc))
  have hC := h.third
  have e : Txt.split (SX.S (lineC t)) (SX.S [32, 124, 32]) = [SX.S (joinSp (t.w.map wWord)), SX.S (joinSp (t.rd.map dig)), SX.S (third t.fl)] :=
    split_bar (fun m => by have := hA _ m; unfold dg at this; omega) (fun m => by have := hB _ m; unfold dg at this; omega) (fun m => by have := hC _ m; unfold dg at this; omega)
  have hl : (lineC t).length ≤ big := by have := h.l_len; unfold big; omega
  simp [e, hl, SX.S_len]
  refine Wp.rw (run_words_join (ws := t.w.map wWord) (fun w hw => ⟨fun c hc => ?_, fun hc => ?_, fun hc => ?_⟩) (by have := h.w_len; unfold big; omega)) ?_
  · have := h.ws hn w hw c hc; unfold dg at this; omega
  · have := h.ws hn w hw _ hc; unfold dg at this; omega
  · have := h.ws hn w hw _ hc; unfold dg at this; omega
  simp
  refine wp_map (l := t.w) (fun p => D.str (SX.S (wWord p))) pairT (fun p hp => ?_) (by have := h.w3; unfold big; omega) ?_
  · have q := h.w1 p hp
    have e2 : Txt.split (SX.S (wWord p)) (SX.S [61]) = [SX.S (dig p.1), SX.S (dig p.2)] := by
      rw [SX.split_S (by simp) (by decide)]
      have := SX.spl_join (c := 61) (sep := []) (parts := [dig p.1, dig p.2]) (by simp) (by simp; omega)
      simp [TL.joinL] at this
      simp [wWord, this]
    have hw3 : (wWord p).length = 3 := rfl
    simp [e2, SX.S_len, hw3, big]
    refine Wp.rw (run_numbers_in (ws := [dig p.1, dig p.2]) (by simp [big])) ?_
    simp [sgn_dig q.1 (by omega), sgn_dig q.2.2.1 (by omega)]
  simp
  by_cases hf : t.fl = [[]]
  · have et : third t.fl = [97, 110, 121] := if_pos hf
    rw [et]
    refine Wp.rw (run_words_in (p := [97, 110, 121]) (by decide) (by decide) (by simp [big])) ?_
    have sp : TL.spl [32] 0 [] [97, 110, 121] = [[97, 110, 121]] := by decide
    rw [sp]
    simp
    refine wp_map (l := [()]) (fun _ => D.str (SX.S [97, 110, 121])) (fun _ => intsT ([[97], [110], [121]].map sgn)) (fun p hp => ?_) (by simp [big]) ?_
    · simp [SX.S_len, big]
      refine Wp.rw (run_numbers_in (ws := [[97], [110], [121]]) (by simp [big])) ?_
      simp
    · simp
      refine Wp.rw (run_words_join (ws := t.rd.map dig) (fun w hw => ⟨fun c hc => ?_, fun hc => ?_, fun hc => ?_⟩) (by have := h.r_len; unfold big; omega)) ?_
      · have := h.rs hn w hw c hc; unfold dg at this; omega
      · have := h.rs hn w hw _ hc; unfold dg at this; omega
      · have := h.rs hn w hw _ hc; unfold dg at this; omega
      simp
      refine Wp.rw (run_numbers_dig (l := t.rd) (fun i hi => by have := h.r1 i hi; omega) (by have := h.r3; simp [big]; omega)) ?_
      have eq := eqD_S (a := [97, 110, 121]) (b := [97, 110, 121]) (by decide) (by decide)
      simp [eq, hf, big]
  · have et : third t.fl = joinSp (t.fl.map fWord) := if_neg hf
    have ht : ¬ third t.fl = [97, 110, 121] := fun e => by
      have m : 97 ∈ third t.fl := by rw [e]; simp
      rw [et] at m
      rcases joinSp_dg (fun w hw c hc => .inl (h.fs w hw c hc)) _ m with z | z | z | z <;> unfold dg at * <;> omega
    have hsm : sm (third t.fl) := fun c hc => by
      have := h.third c hc; unfold dg at this; omega
    have eq := eqD_S hsm (b := [97, 110, 121]) (by decide)
    generalize third t.fl = th at *
    subst et
    refine Wp.rw (run_words_join (ws := t.fl.map fWord) (fun w hw => ⟨fun c hc => ?_, fun hc => ?_, fun hc => ?_⟩) (by have := h.f_len; unfold big; omega)) ?_
    · have := h.fs w hw c hc; unfold dg at this; omega
    · have := h.fs w hw _ hc; unfold dg at this; omega
    · have := h.fs w hw _ hc; unfold dg at this; omega
    simp
    refine wp_map (l := t.fl) (fun v => D.str (SX.S (fWord v))) intsT (fun v hv => ?_) (by have := h.f3; unfold big; omega) ?_
    · have q := h.f1 v hv
      have hlen : (fWord v).length ≤ big := by rw [fWord_len, q.2]; have := h.r3; unfold big; omega
      simp [signs_f, hlen, SX.S_len]
      refine Wp.rw (run_numbers_dig (l := v) (fun i hi => by have := q.1 i hi; omega) (by have := q.2; have := h.r3; simp [big]; omega)) ?_
      simp
    · simp
      refine Wp.rw (run_words_join (ws := t.rd.map dig) (fun w hw => ⟨fun c hc => ?_, fun hc => ?_, fun hc => ?_⟩) (by have := h.r_len; unfold big; omega)) ?_
      · have := h.rs hn w hw c hc; unfold dg at this; omega
      · have := h.rs hn w hw _ hc; unfold dg at this; omega
      · have := h.rs hn w hw _ hc; unfold dg at this; omega
      simp
      refine Wp.rw (run_numbers_dig (l := t.rd) (fun i hi => by have := h.r1 i hi; omega) (by have := h.r3; simp [big]; omega)) ?_
      simp [eq, ht, big]
end DT

end
section
/-! Plain law: a suite's text, read and written. -/
namespace DT
open PySem L2
theorem plns_map {α : Type} (f : α → D) : ∀ {l : List α}, (∀ a ∈ l, pln (f a) = true) → plns (l.map f) = true
  | [], _ => by simp [plns]
  | a :: l, h => by
    simp [plns, h a (List.mem_cons_self ..)]
    exact plns_map f fun b hb => h b (List.mem_cons_of_mem _ hb)
theorem deps_map {α : Type} (f : α → D) {k : Nat} : ∀ {l : List α}, (∀ a ∈ l, dep (f a) ≤ k) → deps (l.map f) ≤ k
  | [], _ => by simp [deps]
  | a :: l, h => by
    have h1 := h a (List.mem_cons_self ..)
    have h2 := deps_map f (k := k) (l := l) fun b hb => h b (List.mem_cons_of_mem _ hb)
    simp [deps]
    omega
theorem pln_ints (l : List Int) : pln (intsT l) = true := by
  unfold intsT; simp only [pln]
  exact plns_map _ fun a _ => by simp [pln]
theorem dep_ints (l : List Int) : dep (intsT l) ≤ 1 := by
  have := deps_map D.int (k := 0) (l := l) (fun a _ => by simp [dep])
  unfold intsT; simp only [dep]; omega
theorem eqD_ws {α : Type} (f : α → List Nat) {l : List α} (h : ∀ a ∈ l, sm (f a)) : eqD (.lst (l.map fun a => .str (SX.S (f a)))) (.lst []) = some (decide (l = [])) := by
  refine eqD_pln ?_ (by simp [pln, plns]) ?_ (by simp [dep, deps]) ?_
  · simp only [pln]
    exact plns_map _ fun a ha => by simpa [pln] using sm_ok (h a ha)
  · have := deps_map (fun a => D.str (SX.S (f a))) (k := 0) (l := l) (fun a _ => by simp [dep])
    simp only [dep]; omega
  · cases l <;> simp
theorem run_joined {α : Type} (f : α → List Nat) {l : List α} (h : ∀ a ∈ l, sm (f a)) {k : Nat} (hk : ∀ a ∈ l, (f a).length ≤ k) (hl : l.length * (k + 1) ≤ big) : F_joined.run [.lst (l.map fun a => .str (SX.S (f a)))] = some (.val (.str (SX.S (joinSp (l.map f)))), []) := by
  refine Wp.eq ?_
  rw [fr_joined]; unfold B_joined
  have e := eqD_ws f h
  by_cases hn : l = []
  · subst hn
    simp [joinSp] at e ⊢
    simp [e, big]
  · have e2 : joinSp (l.map f) = TL.joinL [32] (l.map f) := if_neg (by simpa using hn)
    have hs : (l.map (fun a => (f a).length)).sum + l.length ≤ big := by
      have := sum_le (fun a => (f a).length) hk
      rw [Nat.mul_add] at hl
      omega
    simp [e, hn, join_1, e2, big]
    simp [Function.comp_def, SX.S_len] at hs ⊢
    exact hs
theorem eqD_any (fl : List (List Int)) : eqD (.tup (fl.map intsT)) (.tup [.tup []]) = some (decide (fl = [[]])) := by
  refine eqD_pln ?_ (by simp [pln, plns]) ?_ (by simp [dep, deps]) ?_
  · simp only [pln]
    exact plns_map _ fun a _ => pln_ints a
  · have := deps_map intsT (k := 1) (l := fl) (fun a _ => dep_ints a)
    simp only [dep]; omega
  · cases fl with
    | nil => simp
    | cons v r => cases r <;> cases v <;> simp
variable {n : Nat} {t : TT}
theorem dgs {c : Nat} (h : dg c ∨ c = 61) : c < 128 := by unfold dg at h; omega
theorem run_line_of (h : TOk n t) (hn : n ≤ 5) : F_line_of.run [t.d] = some (.val (.str (SX.S (lineC t))), []) := by
  refine Wp.eq ?_
  rw [fr_line_of]; unfold B_line_of
  simp
  refine wp_map (l := t.w) pairT (fun p => .str (SX.S (wWord p))) (fun p hp => ?_) (by have := h.w3; unfold big; omega) ?_
  · have q := h.w1 p hp
    have a1 : p.1.natAbs < 1000000 := by omega
    have a2 : p.2.natAbs < 1000000 := by omega
    simp [intText_dig q.1 (by omega), intText_dig q.2.2.1 (by omega), a1, a2, SX.S_cat, SX.S_len, big, wWord]
  simp
  refine Wp.rw (run_joined wWord (k := 3) (fun p hp c hc => dgs (h.ws hn _ (List.mem_map_of_mem hp) c hc)) (fun p hp => by simp [wWord]) (by have := h.w3; unfold big; omega)) ?_
  simp
  refine wp_map (l := t.fl) intsT (fun v => .str (SX.S (fWord v))) (fun v hv => ?_) (by have := h.f3; unfold big; omega) ?_
  · have q := h.f1 v hv
    have q3 := h.r3
    simp
    refine wp_map (l := v) D.int (fun i => .str (SX.S (dig i))) (fun i hi => ?_) (by unfold big; omega) ?_
    · have q1 := q.1 i hi
      have a1 : i.natAbs < 1000000 := by omega
      simp [intText_dig q1.1 (by omega), a1]
    · have e : (v.map fun a => (SX.S (dig a)).length).sum ≤ big := by
        have := sum_le (fun a => (SX.S (dig a)).length) (k := 1) (ws := v) (fun i _ => by simp [SX.S_len])
        unfold big; omega
      simp [join_1, joinL_nil, fWord, SX.S_len] at e ⊢
      simp [Function.comp_def, SX.S_len] at e ⊢
      exact e
  simp
  refine Wp.rw (run_joined fWord (k := 3) (fun p hp c hc => dgs (.inl (h.fs _ (List.mem_map_of_mem hp) c hc))) (fun p hp => by rw [fWord_len, (h.f1 p hp).2]; exact h.r3) (by have := h.f3; unfold big; omega)) ?_
  simp
  refine wp_map (l := t.rd) D.int (fun i => .str (SX.S (dig i))) (fun i hi => ?_) (by have := h.r3; unfold big; omega) ?_
  · have q1 := h.r1 i hi
    have a1 : i.natAbs < 1000000 := by omega
    simp [intText_dig q1.1 (by omega), a1]
  simp
  refine Wp.rw (run_joined dig (k := 1) (fun p hp c hc => dgs (.inl (h.rs hn _ (List.mem_map_of_mem hp) c hc))) (fun p hp => by simp) (by have := h.r3; unfold big; omega)) ?_
  have e := eqD_any t.fl
  have w1 := h.w_len
  have w2 := h.r_len
  have w3 := h.f_len
  have j : ∀ c, Txt.join (SX.S [32, 124, 32]) [SX.S (joinSp (t.w.map wWord)), SX.S (joinSp (t.rd.map dig)), SX.S c] = SX.S (joinSp (t.w.map wWord) ++ ([32, 124, 32] ++ (joinSp (t.rd.map dig) ++ ([32, 124, 32] ++ c)))) := fun c => by
    have := SX.join_S [32, 124, 32] [joinSp (t.w.map wWord), joinSp (t.rd.map dig), c]
    simpa [TL.joinL] using this
  unfold lineC third
  generalize joinSp (t.w.map wWord) = A at *
  generalize joinSp (t.rd.map dig) = B at *
  generalize joinSp (t.fl.map fWord) = C at *
  by_cases hf : t.fl = [[]]
  · simp [hf] at e ⊢
    simp [e, strsD, j, SX.S_len, big]
    omega
  · simp [e, hf, strsD, j, SX.S_len, big]
    omega
end DT

end
section
/-! Plain law: the class, its text. -/
namespace DT
open PySem L2
@[scoped simp] theorem big_1 : 1 ≤ big := by decide
@[scoped simp] theorem big_2 : 2 ≤ big := by decide
@[scoped simp] theorem big_3 : 3 ≤ big := by decide
@[scoped simp] theorem big_4 : 4 ≤ big := by decide
@[scoped simp] theorem big_5 : 5 ≤ big := by decide
@[scoped simp] theorem big_6 : 6 ≤ big := by decide
@[scoped simp] theorem big_7 : 7 ≤ big := by decide
@[scoped simp] theorem big_8 : 8 ≤ big := by decide
@[scoped simp] theorem big_9 : 9 ≤ big := by decide
@[scoped simp] theorem big_10 : 10 ≤ big := by decide
@[scoped simp] theorem big_11 : 11 ≤ big := by decide
@[scoped simp] theorem big_12 : 12 ≤ big := by decide
@[scoped simp] theorem big_0 : (0 < big) := by decide
variable {s : List Int} {ts : List TT}
theorem SOk.h_len (h : SOk s ts) : (headC s).length ≤ 16 := by
  have := joinL_len (sep := [32]) (k := 1) (ws := s.map dig) (fun w hw => by
    obtain ⟨p, hp, rfl⟩ := List.mem_map.mp hw
    simp)
  have := h.s3
  unfold headC
  simp at *
  omega
theorem SOk.h_dg (h : SOk s ts) : ∀ c ∈ headC s, 32 ≤ c ∧ c < 128 := fun c hc => by
  unfold headC at hc
  rcases List.mem_append.mp hc with hc | hc
  · have : c = 115 ∨ c = 116 ∨ c = 97 ∨ c = 114 ∨ c = 116 ∨ c = 32 := by simpa using hc
    omega
  · rcases mem_joinL hc with hc | ⟨w, hw, hc⟩
    · have : c = 32 := by simpa using hc
      omega
    · obtain ⟨p, hp, rfl⟩ := List.mem_map.mp hw
      have q := h.s1 p hp
      have := dig_dg q.1 (by omega) c hc
      unfold dg at this; omega
theorem SOk.ls_dg (h : SOk s ts) : ∀ l ∈ linesC s ts, ∀ c ∈ l, 32 ≤ c ∧ c < 128 := fun l hl c hc => by
  rcases List.mem_cons.mp hl with rfl | hl
  · exact h.h_dg c hc
  · obtain ⟨t, ht, rfl⟩ := List.mem_map.mp hl
    exact (h.t1 t ht).l_dg h.s3 c hc
theorem SOk.ls_len (h : SOk s ts) : ∀ l ∈ linesC s ts, l.length ≤ 143 := fun l hl => by
  rcases List.mem_cons.mp hl with rfl | hl
  · have := h.h_len; omega
  · obtain ⟨t, ht, rfl⟩ := List.mem_map.mp hl
    exact (h.t1 t ht).l_len
theorem linesC_len (s : List Int) (ts : List TT) : (linesC s ts).length = ts.length + 1 := by simp [linesC]
theorem SOk.t_len (h : SOk s ts) : (textC s ts).length ≤ 1100 := by
  have := joinL_len (sep := [10]) h.ls_len
  have := h.t2
  rw [linesC_len] at *
  unfold textC
  simp at *
  omega
theorem SOk.t_sm (h : SOk s ts) : sm (textC s ts) := fun c hc => by
  unfold textC at hc
  rcases List.mem_append.mp hc with hc | hc
  · rcases mem_joinL hc with hc | ⟨w, hw, hc⟩
    · have : c = 10 := by simpa using hc
      omega
    · exact (h.ls_dg w hw c hc).2
  · have : c = 10 := by simpa using hc
    omega
theorem text_flat (s : List Int) (ts : List TT) : (linesC s ts).map (· ++ [10]) ≠ [] ∧ TL.joinL [] ((linesC s ts).map (· ++ [10])) = textC s ts := by
  refine ⟨by simp [linesC], ?_⟩
  rw [joinL_nil, joinL_nl (by simp [linesC])]
  rfl
/-- text_of; the tests as a tuple or as a list -/
theorem run_text_of (h : SOk s ts) {d : D} (hd : d = .tup (ts.map TT.d) ∨ d = .lst (ts.map TT.d)) : F_text_of.run [intsT s, d] = some (.val (.str (SX.S (textC s ts))), []) := by
  refine Wp.eq ?_
  have h3 := h.s3
  have h2 := h.s2
  have t2 := h.t2
  have hdd : seqD d = some (ts.map TT.d) := by rcases hd with rfl | rfl <;> rfl
  rw [fr_text_of]; unfold B_text_of
  simp
  refine wp_map (l := s) D.int (fun i => .str (SX.S (dig i))) (fun i hi => ?_) (by unfold big; omega) ?_
  · have q1 := h.s1 i hi
    have a1 : i.natAbs < 1000000 := by omega
    simp [intText_dig q1.1 (by omega), a1]
  simp
  refine Wp.rw (run_joined dig (k := 1) (fun p hp c hc => dgs (.inl (dig_dg (h.s1 p hp).1 (by have := (h.s1 p hp).2; omega) c hc))) (fun p hp => by simp) (by unfold big; omega)) ?_
  have js : joinSp (s.map dig) = TL.joinL [32] (s.map dig) := if_neg (by intro e; have := congrArg List.length e; simp at this; subst this; simp at h2)
  have hl := h.h_len
  unfold headC at hl
  simp [SX.S_len] at hl
  have jl : (TL.joinL [32] (s.map dig)).length ≤ 10 := by omega
  rw [js]
  have ia : 6 + (TL.joinL [32] (s.map dig)).length ≤ big := by unfold big; omega
  have ib : (TL.joinL [32] (s.map dig)).length + 6 ≤ big := by unfold big; omega
  simp [SX.S_len, SX.S_cat, ia, ib, hdd]
  refine wp_map (l := ts) TT.d (fun t => .str (SX.S (lineC t))) (fun t ht => ?_) (by unfold big; omega) ?_
  · simp [run_line_of (h.t1 t ht) h3]
  have ic : 1 + ts.length ≤ big := by unfold big; omega
  simp [ic]
  have el : D.str (SX.S (115 :: 116 :: 97 :: 114 :: 116 :: 32 :: TL.joinL [32] (s.map dig))) :: ts.map (fun t => D.str (SX.S (lineC t))) = (linesC s ts).map fun l => D.str (SX.S l) := by simp [linesC, headC]
  rw [el]
  refine wp_map (l := linesC s ts) (fun l => D.str (SX.S l)) (fun l => .str (SX.S (l ++ [10]))) (fun l hl => ?_) (by rw [linesC_len]; unfold big; omega) ?_
  · have q := h.ls_len l hl
    have i1 : l.length + 1 ≤ big := by unfold big; omega
    simp [SX.S_cat, SX.S_len, i1]
  have sm1 := sum_le (fun l : List Nat => (SX.S (l ++ [10])).length) (k := 144) (ws := linesC s ts) (fun l hl => by have := h.ls_len l hl; simp [SX.S_len]; omega)
  rw [linesC_len] at sm1
  have i2 : ((linesC s ts).map (fun l : List Nat => (SX.S (l ++ [10])).length)).sum ≤ big := by unfold big; omega
  have jt := join_1 (sep := []) (fun l : List Nat => l ++ [10]) (linesC s ts)
  rw [(text_flat s ts).2] at jt
  simp [jt]
  simp [Function.comp_def] at i2 ⊢
  exact i2
end DT

end
section
/-! Plain law: the class made, read. -/
namespace DT
open PySem L2
variable {s : List Int} {ts : List TT}
/-- a suite -/
abbrev suD (s : List Int) (ts : List TT) : D := .ins "Suite" [intsT s, .tup (ts.map TT.d)]
theorem run_mk (h : SOk s ts) : F_Suite_mk.run (.cls "Suite" :: intsT s :: ts.map TT.d) = some (.val (suD s ts), []) := by
  refine Wp.eq ?_
  have h3 := h.s3
  have t2 := h.t2
  show Wp (mkRun (fun f => ([F_is_record, F_is_test] : List Fn)[f]?) gl_Suite_init 4 B_Suite_init "Suite" (.cls "Suite" :: intsT s :: ts.map TT.d)) _
  unfold B_Suite_init mkRun
  have i1 : ts.length ≤ big := by unfold big; omega
  have i2 : ¬ (6 : Int) < (ts.length : Int) := by omega
  simp [wp_bnd2, run_is_record h.s1 h.s2 h.s3, i1]
  refine wp_map (l := ts) TT.d (fun t => .bl true) (fun t ht => ?_) i1 ?_
  · simp [run_is_test (h.t1 t ht) h3]
  simp [i2, wp_bnd1]
theorem toVals_map {α : Type} (f : α → D) (ρ : Ro) : ∀ l : List α, toVals ρ (l.map fun a => Pl.tmp (.val (f a))) = some (l.map f, ρ)
  | [] => rfl
  | a :: l => by
    have ih := toVals_map f ρ l
    simp [ih]
theorem starts_S (a b : List Nat) : Txt.startswith (SX.S (a ++ b)) (SX.S a) = true := by
  rw [← SX.S_cat]
  exact PySem.W.KT.starts_app _ _
theorem ends_S (a b : List Nat) : Txt.endswith (SX.S (a ++ b)) (SX.S b) = true := by
  rw [← SX.S_cat]
  exact PySem.W.KT.ends_app _ _
theorem head_text (s : List Int) (ts : List TT) : ∃ r, textC s ts = [115, 116, 97, 114, 116, 32] ++ r := by
  unfold textC linesC headC
  cases ts with
  | nil => exact ⟨_, by simp [TL.joinL]; rfl⟩
  | cons t r => exact ⟨_, by simp [TL.joinL]; rfl⟩
theorem split_nl (h : SOk s ts) : Txt.split (SX.S (TL.joinL [10] (linesC s ts))) (SX.S [10]) = (linesC s ts).map SX.S := by
  rw [SX.split_S (by simp) (by decide), SX.spl_join (by simp [linesC]) fun l hl m => by have := h.ls_dg l hl _ m; omega]
theorem run_read (h : SOk s ts) : F_Suite_read.run [.cls "Suite", .str (SX.S (textC s ts))] = some (.val (suD s ts), []) := by
  refine Wp.eq ?_
  rw [fr_Suite_read]; unfold B_Suite_read
  have h2 := h.s2
  have h3 := h.s3
  have t2 := h.t2
  obtain ⟨r, hr⟩ := head_text s ts
  have e1 : Txt.startswith (SX.S (textC s ts)) (SX.S [115, 116, 97, 114, 116, 32]) = true := by rw [hr]; exact starts_S _ _
  have e2 : Txt.endswith (SX.S (textC s ts)) (SX.S [10]) = true := ends_S _ _
  have e3 : Txt.slice (SX.S (textC s ts)) none (some (-1)) = SX.S (TL.joinL [10] (linesC s ts)) := SX.butlast_snoc _ _
  have l1 : (textC s ts).length ≤ big := by have := h.t_len; unfold big; omega
  have l2 : (TL.joinL [10] (linesC s ts)).length ≤ big := by have := h.t_len; unfold textC at this; simp at this; unfold big; omega
  have l3 : (linesC s ts).length ≤ 10000 := by rw [linesC_len]; omega
  have e4 : Txt.slice (SX.S (headC s)) (some 6) none = SX.S (TL.joinL [32] (s.map dig)) := SX.from_app [115, 116, 97, 114, 116, 32] _ rfl
  have l4 : (headC s).length ≤ big := by have := h.h_len; unfold big; omega
  have l5 : (TL.joinL [32] (s.map dig)).length ≤ big := by have := h.h_len; unfold headC at this; simp at this; unfold big; omega
  have e5 : Txt.split (SX.S (TL.joinL [32] (s.map dig))) (SX.S [32]) = (s.map dig).map SX.S := by
    rw [SX.split_S (by simp) (by decide), SX.spl_join (by simp; intro e; subst e; simp at h2) fun l hl m => ?_]
    obtain ⟨p, hp, rfl⟩ := List.mem_map.mp hl
    have := dig_dg (h.s1 p hp).1 (by have := (h.s1 p hp).2; omega) _ m
    unfold dg at this; omega
  have l6 : ts.length ≤ 9999 := by omega
  simp [clsRun, e1, e2, e3, l1, l2, split_nl h, SX.S_len]
  have el : linesC s ts = headC s :: ts.map lineC := rfl
  rw [el]
  simp [l6, e4, e5, l4, l5, SX.S_len]
  refine Wp.rw (run_numbers_dig (l := s) (fun i hi => by have := h.s1 i hi; omega) (by unfold big; omega)) ?_
  simp
  refine wp_map (l := ts) (fun t => D.str (SX.S (lineC t))) TT.d (fun t ht => ?_) (by unfold big; omega) ?_
  · simp [run_test_in (h.t1 t ht) h3]
  simp [run_is_record h.s1 h.s2 h.s3]
  refine wp_map (l := ts) TT.d (fun t => .bl true) (fun t ht => ?_) (by unfold big; omega) ?_
  · simp [run_is_test (h.t1 t ht) h3]
  have i2 : ¬ (6 : Int) < (ts.length : Int) := by omega
  simp [i2]
  refine Wp.rw (run_text_of h (.inr rfl)) ?_
  have eq := eqD_S h.t_sm h.t_sm
  simp [eq]
  rw [wp_bnd2]
  refine Wp.rw (toVals_map TT.d _ ts) ?_
  simp [run_mk h]
end DT

end
section
/-! Plain law: rows, the record behind a row. -/
namespace DT
open PySem L2
variable {s : List Int} {ts : List TT}
theorem run_text (h : SOk s ts) : F_Suite_text.run [suD s ts] = some (.val (.str (SX.S (textC s ts))), []) := by
  refine Wp.eq ?_
  rw [fr_Suite_text]; unfold B_Suite_text
  simp [insRun]
  refine Wp.rw (run_text_of h (.inl rfl)) ?_
  simp
theorem run_start (s : List Int) (ts : List TT) : F_Suite_start.run [suD s ts] = some (.val (intsT s), []) := by
  refine Wp.eq ?_
  rw [fr_Suite_start]; unfold B_Suite_start
  simp [insRun]
theorem run_len (h : ts.length ≤ 6) : F_Suite_len.run [suD s ts] = some (.val (.int ts.length), []) := by
  rw [fr_Suite_len]; unfold lenRun
  have e : insRun "Suite" (fun ds => match runFn (fun f => ([] : List Fn)[f]?) gl_Suite_len [.val] 1 B_Suite_len ds with | some (.val (.int n), []) => if 0 ≤ n ∧ n < 2 ^ 63 then some (.val (.int n), []) else none | _ => none) [suD s ts] = (match runFn (fun f => ([] : List Fn)[f]?) gl_Suite_len [.val] 1 B_Suite_len [suD s ts] with | some (.val (.int n), []) => if 0 ≤ n ∧ n < 2 ^ 63 then some (.val (.int n), []) else none | _ => none) := by
    unfold insRun; simp
  have z : runFn (fun f => ([] : List Fn)[f]?) gl_Suite_len [.val] 1 B_Suite_len [suD s ts] = some (.val (.int ts.length), []) := by
    refine Wp.eq ?_
    unfold B_Suite_len
    simp
  refine e.trans ?_
  rw [z]
  have i1 : (0 : Int) ≤ (ts.length : Int) := by omega
  have i2 : (ts.length : Int) < 2 ^ 63 := by omega
  simp
  omega
theorem atI_get {α : Type} {l : List α} {i : Int} (h0 : 0 ≤ i) (h1 : i < l.length) : atI l i = l[i.toNat]? := by
  unfold atI ixN
  simp [h0, h1]
theorem run_item {i : Int} (h0 : 0 ≤ i) {t : TT} (ht : ts[i.toNat]? = some t) : F_Suite_getitem.run [suD s ts, .int i] = some (.val t.d, []) := by
  refine Wp.eq ?_
  have h1 : i < ts.length := by
    have := (List.getElem?_eq_some_iff.mp ht).1
    omega
  rw [fr_Suite_getitem]; unfold B_Suite_getitem
  have i2 : i ≤ (ts.length : Int) - 1 := by omega
  have e : atI (ts.map TT.d) i = some t.d := by
    rw [atI_get h0 (by simpa using h1)]
    simp [ht]
  simp [insRun, run_is_between, h0, i2, e]
theorem run_need_suite (s : List Int) (ts : List TT) : F_need_suite.run [suD s ts] = some (.val .non, []) := by
  refine Wp.eq ?_
  rw [fr_need_suite]; unfold B_need_suite
  simp
/-- a row of tests -/
structure ROk (m : Nat) (r : List Int) : Prop where
  r1 : ∀ i ∈ r, 0 ≤ i ∧ i < m
  r2 : r.Nodup
  r3 : r.length ≤ 6
theorem dedup_id : ∀ {l : List Int}, l.Nodup → dedup l = l
  | [], _ => rfl
  | i :: r, h => by
    have q := List.nodup_cons.mp h
    unfold dedup
    rw [dedup_id q.2, List.filter_eq_self.mpr fun a ha => by simp; intro e; subst e; exact q.1 ha]
theorem run_are_numbers {m : Nat} {r : List Int} (h : ROk m r) : F_are_numbers.run [intsT r, .int m] = some (.val (.bl true), []) := by
  refine Wp.eq ?_
  have h3 := h.r3
  rw [fr_are_numbers]; unfold B_are_numbers
  simp
  refine wp_map (l := r) D.int (fun i => .bl true) (fun i hi => ?_) (by unfold big; omega) ?_
  · have q := h.r1 i hi
    have i2 : i ≤ (m : Int) - 1 := by omega
    simp [run_is_between, q.1, i2]
  have i3 : r.length < 1000 := by omega
  simp [dedup_id h.r2, i3]
theorem run_need_row (h2 : ts.length ≤ 6) {r : List Int} (h : ROk ts.length r) : F_need_row.run [suD s ts, intsT r] = some (.val .non, []) := by
  refine Wp.eq ?_
  rw [fr_need_row]; unfold B_need_row
  simp [run_need_suite, run_len h2]
  refine Wp.rw (run_are_numbers h) ?_
  simp
/-! ### the record behind tests -/
def applyW (r : List Int) (w : List (Int × Int)) : List Int := w.foldl (fun r p => r.set p.1.toNat p.2) r
def lookW (w : List (Int × Int)) (i : Int) (v : Int) : Int := match w with
  | [] => v
  | p :: w => if p.1 = i then p.2 else lookW w i v
theorem applyW_len (w : List (Int × Int)) : ∀ r : List Int, (applyW r w).length = r.length := by
  induction w with
  | nil => intro r; rfl
  | cons p w ih => intro r; show (applyW (r.set _ _) w).length = _; rw [ih, List.length_set]
theorem lookW_no {w : List (Int × Int)} {i v : Int} (h : ∀ p ∈ w, p.1 ≠ i) : lookW w i v = v := by
  induction w with
  | nil => rfl
  | cons p w ih =>
    unfold lookW
    rw [if_neg (h p (List.mem_cons_self ..))]
    exact ih fun q hq => h q (List.mem_cons_of_mem _ hq)
theorem applyW_get {w : List (Int × Int)} : ∀ {r : List Int}, (∀ p ∈ w, 0 ≤ p.1) → (w.map (·.1)).Pairwise (· < ·) → ∀ j : Nat, (applyW r w)[j]? = (r[j]?).map fun v => lookW w j v := by
  induction w with
  | nil => intro r _ _ j; show r[j]? = _; cases r[j]? <;> rfl
  | cons p w ih =>
    intro r h0 h j
    have q := List.pairwise_cons.mp h
    show (applyW (r.set _ _) w)[j]? = _
    rw [ih (fun x hx => h0 x (List.mem_cons_of_mem _ hx)) q.2 j]
    have hp := h0 p (List.mem_cons_self ..)
    by_cases e : p.1 = (j : Int)
    · have ej : p.1.toNat = j := by omega
      rw [ej, List.getElem?_set]
      simp only [if_true]
      have no : ∀ x ∈ w, x.1 ≠ (j : Int) := fun x hx => by
        have z : p.1 < x.1 := q.1 x.1 (List.mem_map_of_mem hx)
        omega
      by_cases hj : j < r.length
      · rw [if_pos hj, List.getElem?_eq_getElem hj]
        simp only [Option.map_some]
        rw [lookW_no no]
        simp [lookW, e]
      · rw [if_neg hj, List.getElem?_eq_none (by omega)]
        rfl
    · have ej : p.1.toNat ≠ j := by omega
      rw [List.getElem?_set_ne ej]
      congr 1
      funext v
      conv => rhs; unfold lookW
      rw [if_neg e]
theorem pairsD_map (w : List (Int × Int)) : pairsD (w.map pairT) = some (w.map (·.1), w.map fun p => .int p.2) := by
  induction w with
  | nil => rfl
  | cons p w ih => rw [List.map_cons]; unfold pairsD; rw [ih]; rfl
theorem nodupI_lt : ∀ {l : List Int}, l.Pairwise (· < ·) → nodupI l = true
  | [], _ => rfl
  | i :: r, h => by
    have q := List.pairwise_cons.mp h
    unfold nodupI
    rw [nodupI_lt q.2, Bool.and_true, Bool.not_eq_true']
    cases e : r.contains i with
    | false => rfl
    | true => have := q.1 i (by simpa using e); omega
theorem dicAt_map (w : List (Int × Int)) (i v : Int) : (dicAt (w.map (·.1)) (w.map fun p => D.int p.2) i).getD (.int v) = .int (lookW w i v) := by
  induction w with
  | nil => rfl
  | cons p w ih =>
    rw [List.map_cons, List.map_cons]
    unfold dicAt lookW
    by_cases e : p.1 = i
    · rw [if_pos e, if_pos e]; rfl
    · rw [if_neg e, if_neg e]; exact ih
theorem run_written {n : Nat} {t : TT} (h : TOk n t) : F_written.run [t.d] = some (.val (.dic (t.w.map (·.1)) (t.w.map fun p => .int p.2)), []) := by
  refine Wp.eq ?_
  have h3 := h.w3
  rw [fr_written]; unfold B_written
  have i1 : t.w.length ≤ 1000 := by omega
  simp [pairsD_map, nodupI_lt h.w2, i1]
def enF (w : List (Int × Int)) : D → D
  | .tup [.int i, .int v] => .int (lookW w i v)
  | d => d
theorem mem_enumD {l : List Int} : ∀ {n : Nat} {d : D}, d ∈ enumD n (l.map D.int) → ∃ (i : Nat) (v : Int), d = .tup [.int i, .int v] := by
  induction l with
  | nil => intro n d h; simp [enumD] at h
  | cons x l ih =>
    intro n d h
    rcases List.mem_cons.mp (show d ∈ D.tup [.int n, .int x] :: enumD (n + 1) (l.map D.int) from h) with e | e
    · exact ⟨n, x, e⟩
    · exact ih e
theorem enumD_le {l : List D} : ∀ n : Nat, (enumD n l).length = l.length := by
  induction l with
  | nil => intro n; rfl
  | cons x l ih => intro n; show (enumD (n + 1) l).length + 1 = _; rw [ih]; rfl
theorem enF_map {w : List (Int × Int)} {l : List Int} : ∀ n : Nat, ∀ j : Nat, ((enumD n (l.map D.int)).map (enF w))[j]? = ((l[j]?).map fun v => D.int (lookW w ((n + j : Nat) : Int) v)) := by
  induction l with
  | nil => intro n j; rfl
  | cons x l ih =>
    intro n j
    show ((enF w (.tup [.int n, .int x])) :: (enumD (n + 1) (l.map D.int)).map (enF w))[j]? = _
    cases j with
    | zero => simp [enF]
    | succ j =>
      rw [List.getElem?_cons_succ, List.getElem?_cons_succ, ih (n + 1) j]
      rw [show n + 1 + j = n + (j + 1) by omega]
theorem run_after {n : Nat} {t : TT} (h : TOk n t) {r : List Int} (hr : r.length ≤ 5) : F_record_after.run [intsT r, t.d] = some (.val (intsT (applyW r t.w)), []) := by
  refine Wp.eq ?_
  rw [fr_record_after]; unfold B_record_after
  simp
  refine Wp.rw (run_written h) ?_
  simp
  refine wp_mapD (enF t.w) (fun d hd => ?_) (by rw [enumD_le]; simp [big]; omega) ?_
  · obtain ⟨i, v, rfl⟩ := mem_enumD hd
    simp [dicAt_map, enF]
  have e : (enumD 0 (r.map D.int)).map (enF t.w) = (applyW r t.w).map D.int := by
    refine List.ext_getElem? fun j => ?_
    rw [enF_map, List.getElem?_map, applyW_get (fun p hp => (h.w1 p hp).1) h.w2, Option.map_map, Nat.zero_add]
    rfl
  simp [e]
def bh (ts : List TT) (r : List Int) (row : List Int) : List Int := row.foldl (fun r i => applyW r ((ts[i.toNat]?.map (·.w)).getD [])) r
theorem bh_len (ts : List TT) (row : List Int) : ∀ r : List Int, (bh ts r row).length = r.length := by
  induction row with
  | nil => intro r; rfl
  | cons p w ih => intro r; show (bh ts (applyW r _) w).length = _; rw [ih, applyW_len]
theorem run_behind (h : SOk s ts) {row : List Int} (hr : ROk ts.length row) : F_behind.run [suD s ts, intsT row] = some (.val (intsT (bh ts s row)), []) := by
  refine Wp.eq ?_
  rw [fr_behind]; unfold B_behind
  simp [run_start]
  refine wp_for (fun rest ρ => ∃ (rest' : List Int) (r : List Int) (x : Option W), rest = rest'.map D.int ∧ ρ = [some (.val (suD s ts)), some (.val (intsT row)), some (.val (intsT r)), x] ∧ (∀ i ∈ rest', 0 ≤ i ∧ i < ts.length) ∧ r.length = s.length ∧ bh ts r rest' = bh ts s row) ?_ ⟨row, s, none, rfl, rfl, hr.r1, rfl, rfl⟩ ?_
  · rintro d rest ρ ⟨rest', r, x, e, rfl, hi, hl, hb⟩
    cases rest' with
    | nil => simp at e
    | cons i rest' =>
      simp at e
      obtain ⟨rfl, rfl⟩ := e
      have q := hi i (List.mem_cons_self ..)
      have hj : i.toNat < ts.length := by omega
      have ht : ts[i.toNat]? = some ts[i.toNat] := List.getElem?_eq_getElem hj
      have ok := h.t1 _ (List.getElem_mem hj)
      simp [run_item q.1 ht]
      refine Wp.rw (run_after ok (by rw [hl]; exact h.s3)) ?_
      simp
      refine ⟨rest', rfl, applyW r ts[i.toNat].w, rfl, fun j hj => hi j (List.mem_cons_of_mem _ hj), by rw [applyW_len, hl], ?_⟩
      rw [← hb]
      show _ = bh ts (applyW r _) rest'
      rw [ht]
      rfl
  · rintro ρ ⟨rest', r, x, e, rfl, _, hl, hb⟩
    have : rest' = [] := by simpa using e.symm
    subst this
    simp
    exact congrArg _ hb
theorem run_record_behind (h : SOk s ts) {row : List Int} (hr : ROk ts.length row) : F_record_behind.run [suD s ts, intsT row] = some (.val (intsT (bh ts s row)), []) := by
  refine Wp.eq ?_
  rw [fr_record_behind]; unfold B_record_behind
  simp
  refine Wp.rw (run_need_row h.t2 hr) ?_
  simp
  refine Wp.rw (run_behind h hr) ?_
  simp
end DT

end
section
/-! Plain law: repr of small data. -/
namespace DT
open PySem L2
theorem ok_app (x y : Str) : PyData.strOk (x ++ y) = (PyData.strOk x && PyData.strOk y) := by
  unfold PyData.strOk
  rw [Str.cps_append, Array.all_append]
theorem ok_of (s : String) : PyData.strOk (Str.ofString s) = true := by
  unfold PyData.strOk
  rw [← Array.all_toList]
  have e : (Str.ofString s).cps.toList = s.toList.map Char.toNat := TL.tl_ofString s
  rw [e, List.all_map]
  refine List.all_eq_true.mpr fun c _ => ?_
  have := c.valid
  have z : c.toNat < 0x110000 := by
    rcases c.valid with h | h
    · exact Nat.lt_trans h (by decide)
    · exact h.2
  exact decide_eq_true z
theorem ok_from : ∀ (ts : List Str) (k : Nat) (acc : Str), PyData.strOk acc = true → (∀ t ∈ ts, PyData.strOk t = true) → PyData.strOk (textFrom k acc ts) = true
  | [], k, acc, h, _ => h
  | t :: r, k, acc, h, ht => by
    show PyData.strOk (textFrom (k + 1) (acc ++ (if k > 0 then ", " else "" : String) ++ t) r) = true
    refine ok_from r _ _ ?_ fun x hx => ht x (List.mem_cons_of_mem _ hx)
    rw [ok_app, ok_app, h, ht t (List.mem_cons_self ..), ok_of]
    rfl
theorem ok_join {y : Str} (hy : PyData.strOk y = true) : ∀ ts : List Str, (∀ t ∈ ts, PyData.strOk t = true) → PyData.strOk (Str.join y ts) = true
  | [], _ => by show PyData.strOk Str.empty = true; unfold PyData.strOk; simp [Str.empty]
  | [t], h => h t (List.mem_cons_self ..)
  | t :: u :: r, h => by
    show PyData.strOk (t ++ y ++ Str.join y (u :: r)) = true
    rw [ok_app, ok_app, h t (List.mem_cons_self ..), hy, ok_join hy (u :: r) fun x hx => h x (List.mem_cons_of_mem _ hx)]
    rfl
theorem hex_ok {w c : Nat} : ∀ d ∈ (List.replicate (w - ((Nat.toDigits 16 c).map Char.toNat).length) 48 ++ (Nat.toDigits 16 c).map Char.toNat), d < 1114112 := fun d hd => by
  rcases List.mem_append.mp hd with hd | hd
  · rw [(List.mem_replicate.mp hd).2]; decide
  · obtain ⟨ch, _, rfl⟩ := List.mem_map.mp hd
    rcases ch.valid with h | h
    · exact Nat.lt_trans h (by decide)
    · exact h.2
theorem ok_reprChar {q c : Nat} (hc : c < 1114112) : ∀ d ∈ Builtin.Str.reprChar q c, d < 1114112 := fun d hd => by
  unfold Builtin.Str.reprChar at hd
  have two : ∀ a b : Nat, a < 1114112 → b < 1114112 → ∀ d ∈ [a, b], d < 1114112 := fun a b ha hb d hd => by
    rcases List.mem_cons.mp hd with rfl | hd
    · exact ha
    · rw [List.mem_singleton.mp hd]; exact hb
  dsimp only at hd
  split at hd
  · exact two _ _ (by decide) hc d hd
  split at hd
  · exact two _ _ (by decide) (by decide) d hd
  split at hd
  · exact two _ _ (by decide) (by decide) d hd
  split at hd
  · exact two _ _ (by decide) (by decide) d hd
  split at hd
  · rw [List.mem_singleton.mp hd]; exact hc
  split at hd
  · rcases List.mem_append.mp hd with hd | hd
    · exact two _ _ (by decide) (by decide) d hd
    · exact hex_ok d hd
  split at hd
  · rcases List.mem_append.mp hd with hd | hd
    · exact two _ _ (by decide) (by decide) d hd
    · exact hex_ok d hd
  · rcases List.mem_append.mp hd with hd | hd
    · exact two _ _ (by decide) (by decide) d hd
    · exact hex_ok d hd
theorem foldl_ok (q : Nat) : ∀ (l : List Nat) (acc : Array Nat), (∀ c ∈ l, c < 1114112) → (∀ c ∈ acc.toList, c < 1114112) → ∀ c ∈ (l.foldl (fun out c => out ++ (Builtin.Str.reprChar q c).toArray) acc).toList, c < 1114112
  | [], acc, _, h => h
  | c :: r, acc, hl, h => by
    rw [List.foldl_cons]
    refine foldl_ok q r _ (fun d hd => hl d (List.mem_cons_of_mem _ hd)) fun d hd => ?_
    rw [Array.toList_append] at hd
    rcases List.mem_append.mp hd with hd | hd
    · exact h d hd
    · exact ok_reprChar (hl c (List.mem_cons_self ..)) d hd
theorem ok_iff {x : Str} : PyData.strOk x = true ↔ ∀ c ∈ x.cps.toList, c < 1114112 := by
  unfold PyData.strOk
  rw [← Array.all_toList, List.all_eq_true]
  exact ⟨fun h c hc => of_decide_eq_true (h c hc), fun h c hc => decide_eq_true (h c hc)⟩
theorem ok_reprText {x : Str} (h : PyData.strOk x = true) : PyData.strOk (reprText x) = true := by
  rw [ok_iff] at h ⊢
  unfold reprText
  intro c hc
  have q0 : reprQuote x < 1114112 := by unfold reprQuote; split <;> decide
  rw [Array.toList_push] at hc
  rcases List.mem_append.mp hc with hc | hc
  · rw [← Array.foldl_toList] at hc
    exact foldl_ok _ _ #[reprQuote x] h (fun d hd => by rw [show d = reprQuote x by simpa using hd]; exact q0) c hc
  · rw [List.mem_singleton.mp hc]; exact q0
/-! data without texts -/
mutual
def rp : D → Bool
  | .int i => decide (i.natAbs < 1000)
  | .non => true
  | .bl _ => true
  | .str x => PyData.strOk x && decide (x.length ≤ 5000)
  | .tup ds => rps ds
  | .lst ds => rps ds
  | _ => false
def rps : List D → Bool
  | [] => true
  | d :: r => rp d && rps r
end
mutual
def wt : D → Nat
  | .tup ds => wts ds
  | .lst ds => wts ds
  | .str x => x.length
  | _ => 10
def wts : List D → Nat
  | [] => 0
  | d :: r => wt d + 1 + wts r
end
/-- what repr asks of data -/
structure Rp (d : D) (x : PyData) : Prop where
  py : toPy d = some x
  sh : x.showable = true
  nd : x.hasDict = false
  dp : x.depth = dep d
  ls : x.leavesShort 13 = true
  we : x.weight ≤ wt d
  ok : PyData.strOk x.shown = true
structure Rps (ds : List D) (xs : List PyData) : Prop where
  py : toPys ds = some xs
  sh : PyData.showableAll xs = true
  nd : PyData.hasDictAll xs = false
  dp : PyData.depthAll xs = deps ds
  ls : PyData.leavesShortAll 13 xs = true
  we : PyData.weightAll xs ≤ wts ds
  ok : ∀ t ∈ PyData.shownAll xs, PyData.strOk t = true
mutual
theorem rp_ok : ∀ d : D, rp d = true → Rp d (pyO d)
  | .int i, h => by
    have h : i.natAbs < 1000 := by simpa [rp] using h
    refine ⟨by simp [toPy, pyO], ?_, by simp [pyO, PyData.hasDict], by simp [pyO, PyData.depth, dep], ?_, ?_, ?_⟩
    · have := Nat.log2_le_self i.natAbs
      simp [pyO, PyData.showable]
      omega
    · simp only [pyO, PyData.leavesShort]
      exact decide_eq_true (PyData.shown_int_le (by omega))
    · simp only [pyO, PyData.weight, wt]
      split
      · omega
      · rename_i hz
        have hz : i.natAbs ≠ 0 := by simpa using hz
        have := (Nat.log2_lt hz (k := 10)).mpr (by omega)
        omega
    · simp only [pyO, PyData.shown]
      exact ok_of _
  | .non, _ => ⟨by simp [toPy, pyO], by simp [pyO, PyData.showable], by simp [pyO, PyData.hasDict], by simp [pyO, PyData.depth, dep], by simp [pyO, PyData.leavesShort], by simp [pyO, PyData.weight, wt], by simp only [pyO, PyData.shown]; exact ok_of _⟩
  | .bl b, _ => ⟨by simp [toPy, pyO], by simp [pyO, PyData.showable], by simp [pyO, PyData.hasDict], by simp [pyO, PyData.depth, dep], by simp [pyO, PyData.leavesShort], by simp [pyO, PyData.weight, wt], by simp only [pyO, PyData.shown]; cases b <;> exact ok_of _⟩
  | .tup ds, h => by
    obtain ⟨h1, h2, h3, h4, h5, h6, h7⟩ := rps_ok ds (by simpa [rp] using h)
    refine ⟨by simp [toPy, pyO, h1], by simp [pyO, PyData.showable, h2], by simp [pyO, PyData.hasDict, h3], by simp [pyO, PyData.depth, dep, h4], by simp [pyO, PyData.leavesShort, h5], by simpa [pyO, PyData.weight, wt] using h6, ?_⟩
    simp only [pyO, PyData.shown]
    unfold tupleText
    rw [ok_app, ok_app, ok_of, ok_join (ok_of _) _ h7]
    split <;> exact ok_of _
  | .lst ds, h => by
    obtain ⟨h1, h2, h3, h4, h5, h6, h7⟩ := rps_ok ds (by simpa [rp] using h)
    refine ⟨by simp [toPy, pyO, h1], by simp [pyO, PyData.showable, h2], by simp [pyO, PyData.hasDict, h3], by simp [pyO, PyData.depth, dep, h4], by simp [pyO, PyData.leavesShort, h5], by simpa [pyO, PyData.weight, wt] using h6, ?_⟩
    simp only [pyO, PyData.shown]
    unfold listText
    rw [ok_app, ok_from _ _ _ (ok_of _) h7]
    exact ok_of _
  | .str x, h => by
    have h : PyData.strOk x = true ∧ x.length ≤ 5000 := by simpa [rp] using h
    refine ⟨by simp [toPy, pyO], by simp [pyO, PyData.showable], by simp [pyO, PyData.hasDict], by simp [pyO, PyData.depth, dep], ?_, by simp [pyO, PyData.weight, wt, Str.length], ?_⟩
    · simp only [pyO, PyData.leavesShort]
      refine List.all_eq_true.mpr fun c hc => decide_eq_true ?_
      have := ok_iff.mp h.1 c hc
      omega
    · simp only [pyO, PyData.shown]
      exact ok_reprText h.1
  | .ins _ _, h => by simp [rp] at h
  | .cls _, h => by simp [rp] at h
  | .dic _ _, h => by simp [rp] at h
theorem rps_ok : ∀ ds : List D, rps ds = true → Rps ds (pyOs ds)
  | [], _ => ⟨by simp [toPys, pyOs], by simp [pyOs, PyData.showableAll], by simp [pyOs, PyData.hasDictAll], by simp [pyOs, PyData.depthAll, deps], by simp [pyOs, PyData.leavesShortAll], by simp [pyOs, PyData.weightAll], by simp [pyOs, PyData.shownAll]⟩
  | d :: r, h => by
    have h : rp d = true ∧ rps r = true := by simpa [rps] using h
    obtain ⟨h1, h2, h3, h4, h5, h6, h7⟩ := rp_ok d h.1
    obtain ⟨g1, g2, g3, g4, g5, g6, g7⟩ := rps_ok r h.2
    refine ⟨by simp [toPys, pyOs, h1, g1], by simp [pyOs, PyData.showableAll, h2, g2], by simp [pyOs, PyData.hasDictAll, h3, g3], by simp [pyOs, PyData.depthAll, deps, h4, g4], by simp [pyOs, PyData.leavesShortAll, h5, g5], by simp only [pyOs, PyData.weightAll, wts]; omega, ?_⟩
    intro t ht
    simp only [pyOs, PyData.shownAll] at ht
    rcases List.mem_cons.mp ht with e | e
    · rw [e]; exact h7
    · exact g7 t e
end
/-- repr of data -/
theorem shown_ok {d : D} (h : rp d = true) (hd : dep d ≤ 60) (hw : wt d ≤ 60000) : ∃ x, shownD d = some x ∧ PyData.strOk x = true := by
  obtain ⟨h1, h2, h3, h4, h5, h6, h7⟩ := rp_ok d h
  refine ⟨(pyO d).shown, ?_, h7⟩
  have := PyData.shown_le 13 (by decide) _ h5
  have l : (pyO d).shown.length ≤ big := by unfold big; omega
  unfold shownD
  rw [h1]
  simp [h2, h3, h4, hd, l]
theorem shown_len {d : D} (h : rp d = true) {x : Str} (hx : shownD d = some x) : x.length ≤ 15 * wt d + 13 := by
  obtain ⟨h1, h2, h3, h4, h5, h6, h7⟩ := rp_ok d h
  have := PyData.shown_le 13 (by decide) _ h5
  unfold shownD at hx
  rw [h1] at hx
  dsimp only at hx
  split at hx
  · cases hx; omega
  · cases hx
theorem rps_map {α : Type} (f : α → D) : ∀ {l : List α}, (∀ a ∈ l, rp (f a) = true) → rps (l.map f) = true
  | [], _ => by simp [rps]
  | a :: l, h => by
    simp [rps, h a (List.mem_cons_self ..)]
    exact rps_map f fun b hb => h b (List.mem_cons_of_mem _ hb)
theorem wts_map {α : Type} (f : α → D) {k : Nat} : ∀ {l : List α}, (∀ a ∈ l, wt (f a) ≤ k) → wts (l.map f) ≤ l.length * (k + 1)
  | [], _ => by simp [wts]
  | a :: l, h => by
    have h1 := h a (List.mem_cons_self ..)
    have h2 := wts_map f (k := k) (l := l) fun b hb => h b (List.mem_cons_of_mem _ hb)
    simp only [List.map_cons, wts, List.length_cons, Nat.succ_mul]
    omega
theorem eqD_texts {x : Str} (h : PyData.strOk x = true) : eqD (.str x) (.str x) = some true := eqD_same (by simpa [pln] using h) (by simp [dep])
theorem rp_ints {l : List Int} (h : ∀ i ∈ l, i.natAbs < 1000) : rp (intsT l) = true := by
  simp only [intsT, rp]
  exact rps_map _ fun a ha => by simpa [rp] using h a ha
theorem wt_ints (l : List Int) : wt (intsT l) ≤ l.length * 11 := by
  simp only [intsT, wt]
  exact wts_map (k := 10) _ fun a ha => by simp [wt]
end DT

end
section
/-! Plain law: what all families need. -/
namespace DT
open PySem L2
variable {s : List Int} {ts : List TT}
@[scoped simp] theorem borSlots_tmp (ms : List Mode) (w : W) (ps : List Pl) : borSlots (.bor :: ms) (.tmp w :: ps) = borSlots ms ps := rfl
theorem eqD_bl (a b : Bool) : eqD (.bl a) (.bl b) = some (a == b) := by cases a <;> cases b <;> rfl
def tups : Nat → List (List Int)
  | 0 => [[]]
  | n + 1 => (tups n).flatMap fun v => [v ++ [0], v ++ [1], v ++ [2]]
theorem tups_ok {n : Nat} (h : n ≤ 3) : (tups n).Pairwise (fun a b => HT.lexLt a b = true) ∧ (∀ v ∈ tups n, (∀ i ∈ v, 0 ≤ i ∧ i ≤ 2) ∧ v.length = n) ∧ (tups n).length ≤ 27 := by
  match n, h with
  | 0, _ => decide
  | 1, _ => decide
  | 2, _ => decide
  | 3, _ => decide
theorem rangeD_cons {a b : Int} {d : D} {r : List D} (h : d :: r = rangeD a b) : a < b ∧ d = .int a ∧ r = rangeD (a + 1) b := by
  unfold rangeD at h
  cases q : (b - a).toNat with
  | zero => rw [q] at h; simp at h
  | succ m =>
    rw [q, List.range_succ_eq_map] at h
    simp at h
    refine ⟨by omega, h.1, ?_⟩
    rw [h.2]
    unfold rangeD
    rw [show (b - (a + 1)).toNat = m by omega]
    refine List.map_congr_left fun i _ => ?_
    show D.int _ = D.int _
    congr 1
    omega
theorem rangeD_nil {a b : Int} (h : [] = rangeD a b) : b ≤ a := by
  unfold rangeD at h
  cases q : (b - a).toNat with
  | zero => omega
  | succ m => rw [q, List.range_succ_eq_map] at h; simp at h
theorem rangeD_len (a b : Int) : (rangeD a b).length = (b - a).toNat := by simp [rangeD]
theorem cutD_to {α : Type} {l : List α} {i : Int} (h : 0 ≤ i) : cutD l none (some i) = l.take i.toNat := by
  unfold cutD HT.sIx
  have h2 : ¬ i < 0 := by omega
  simp [h2]
theorem cutD_from {α : Type} {l : List α} {i : Int} (h : 0 ≤ i) : cutD l (some i) none = l.drop i.toNat := by
  unfold cutD HT.sIx
  have h2 : ¬ i < 0 := by omega
  simp [h2]
  by_cases q : (l.length : Int) ≤ i
  · rw [List.drop_eq_nil_of_le (by omega), List.drop_eq_nil_of_le (by omega)]
    simp
  · rw [show min i.toNat l.length = i.toNat by omega]
    exact List.take_of_length_le (by rw [List.length_drop]; omega)
theorem pairwise_snoc {l : List Int} {x : Int} (h : l.Pairwise (· < ·)) (hx : ∀ i ∈ l, i < x) : (l ++ [x]).Pairwise (· < ·) :=
  List.pairwise_append.mpr ⟨h, List.pairwise_singleton _ _, fun a ha b hb => by rw [List.mem_singleton.mp hb]; exact hx a ha⟩
theorem pln_pair (p : Int × Int) : pln (pairT p) = true := by simp [pln, plns]
theorem pln_d (t : TT) : pln t.d = true := by
  have h1 := plns_map pairT (l := t.w) fun a _ => pln_pair a
  have h2 := pln_ints t.rd
  have h3 := plns_map intsT (l := t.fl) fun a _ => pln_ints a
  simp only [pln, plns] at *
  simp only [pln, h1, h2, h3]
  rfl
theorem dep_d (t : TT) : dep t.d ≤ 3 := by
  have h1 := deps_map pairT (k := 1) (l := t.w) fun a _ => by simp [dep, deps]
  have h2 := dep_ints t.rd
  have h3 := deps_map intsT (k := 1) (l := t.fl) fun a _ => dep_ints a
  simp only [dep, deps] at *
  omega
theorem eqD_ts (ts : List TT) : eqD (.lst (ts.map TT.d)) (.lst []) = some (decide (ts = [])) := by
  refine eqD_pln ?_ (by simp [pln, plns]) ?_ (by simp [dep, deps]) ?_
  · simp only [pln]
    exact plns_map _ fun a _ => pln_d a
  · have := deps_map TT.d (k := 3) (l := ts) fun a _ => dep_d a
    simp only [dep]; omega
  · cases ts <;> simp
theorem rangeD_map (n : Nat) : rangeD 0 n = ((List.range n).map fun i : Nat => (i : Int)).map D.int := by
  unfold rangeD
  simp
theorem erase_perm : ∀ {l : List Int} {i : Nat} (h : i < l.length), (l[i] :: l.eraseIdx i).Perm l
  | [], i, h => by simp at h
  | x :: l, 0, _ => by simp
  | x :: l, i + 1, h => by
    simp only [List.getElem_cons_succ, List.eraseIdx_cons_succ]
    exact (List.Perm.swap _ _ _).trans (List.Perm.cons _ (erase_perm (by simpa using h)))
theorem range_nodup (m : Nat) : ((List.range m).map fun i : Nat => (i : Int)).Nodup := by
  refine List.pairwise_map.mpr (List.Pairwise.imp ?_ List.nodup_range)
  intro a b h e
  exact h (by omega)
theorem range_mem {m : Nat} : ∀ i ∈ ((List.range m).map fun i : Nat => (i : Int)), 0 ≤ i ∧ i < m := fun i hi => by
  obtain ⟨j, hj, rfl⟩ := List.mem_map.mp hi
  have := List.mem_range.mp hj
  omega
theorem add_S {a b : List Nat} (h : a.length + b.length ≤ big) : bin2 .add (.str (SX.S a)) (.str (SX.S b)) = some (.val (.str (SX.S (a ++ b)))) := by
  rw [add_str, if_pos (by rw [SX.S_len, SX.S_len]; exact h), SX.S_cat]
theorem ints_inj {a b : List Int} (h : intsT a = intsT b) : a = b := by
  have h : a.map D.int = b.map D.int := by simpa using h
  exact List.map_inj_right (fun x y e => by simpa using e) |>.mp h
theorem inD_ints (v : List Int) (l : List (List Int)) : inD (intsT v) (l.map intsT) = some (decide (v ∈ l)) := by
  have := dep_ints v
  have d := deps_map intsT (k := 1) (l := l) fun a _ => dep_ints a
  refine inD_pln (pln_ints v) (plns_map _ fun a _ => pln_ints a) (by omega) (by omega) ?_
  rw [decide_eq_true_eq, List.mem_map]
  exact ⟨fun ⟨a, ha, e⟩ => by rw [← ints_inj e]; exact ha, fun h => ⟨v, h, rfl⟩⟩
theorem inD_int (i : Int) (l : List Int) : inD (.int i) (l.map D.int) = some (decide (i ∈ l)) := by
  have d := deps_map D.int (k := 0) (l := l) fun a _ => by simp [dep]
  refine inD_pln (by simp [pln]) (plns_map _ fun a _ => by simp [pln]) (by simp [dep]) (by omega) ?_
  rw [decide_eq_true_eq, List.mem_map]
  exact ⟨fun ⟨a, ha, e⟩ => by cases e; exact ha, fun h => ⟨i, h, rfl⟩⟩
/-- the values of some fields -/
def vals (r fs : List Int) : List Int := fs.map fun i => (r[i.toNat]?).getD 0
theorem atI_ints {r : List Int} {i : Int} (h0 : 0 ≤ i) (h1 : i < r.length) : atI (r.map D.int) i = some (.int ((r[i.toNat]?).getD 0)) := by
  rw [atI_get h0 (by simpa using h1)]
  have : i.toNat < r.length := by omega
  simp [this]
theorem run_values_at {r fs : List Int} (h : ∀ i ∈ fs, 0 ≤ i ∧ i < r.length) (hl : fs.length ≤ 10) : F_values_at.run [intsT r, intsT fs] = some (.val (intsT (vals r fs)), []) := by
  refine Wp.eq ?_
  rw [fr_values_at]; unfold B_values_at
  simp
  refine wp_map (l := fs) D.int (fun i => .int ((r[i.toNat]?).getD 0)) (fun i hi => ?_) (by unfold big; omega) ?_
  · simp [atI_ints (h i hi).1 (h i hi).2]
  simp [vals]
/-- the verdict -/
def pass (r : List Int) (t : TT) : Bool := !decide (vals r t.rd ∈ t.fl)
theorem run_passes_at {n : Nat} {t : TT} (h : TOk n t) {r : List Int} (hr : r.length = n) : F_passes_at.run [intsT r, t.d] = some (.val (.bl (pass r t)), []) := by
  refine Wp.eq ?_
  rw [fr_passes_at]; unfold B_passes_at
  simp
  refine Wp.rw (run_values_at (fun i hi => by have := h.r1 i hi; omega) (by have := h.r3; omega)) ?_
  have e := inD_ints (vals r t.rd) t.fl
  simp only [intsT] at e
  simp [e, pass]
theorem run_need_number (h2 : ts.length ≤ 6) {i : Int} (h0 : 0 ≤ i) (h1 : i < ts.length) : F_need_number.run [suD s ts, .int i] = some (.val .non, []) := by
  refine Wp.eq ?_
  rw [fr_need_number]; unfold B_need_number
  have i2 : i ≤ (ts.length : Int) - 1 := by omega
  simp [run_need_suite, run_len h2, run_is_between, h0, i2]
theorem run_row_of_others (h2 : ts.length ≤ 6) {i : Int} {r : List Int} (hr : ROk ts.length r) (hn : i ∉ r) : F_is_row_of_others.run [suD s ts, .int i, intsT r] = some (.val (.bl true), []) := by
  refine Wp.eq ?_
  rw [fr_is_row_of_others]; unfold B_is_row_of_others
  simp [run_len h2]
  refine Wp.rw (run_are_numbers hr) ?_
  simp [inD_int, hn]
theorem run_need_others (h2 : ts.length ≤ 6) {i : Int} (h0 : 0 ≤ i) (h1 : i < ts.length) {r : List Int} (hr : ROk ts.length r) (hn : i ∉ r) : F_need_others.run [suD s ts, .int i, intsT r] = some (.val .non, []) := by
  refine Wp.eq ?_
  rw [fr_need_others]; unfold B_need_others
  simp
  refine Wp.rw (run_need_number h2 h0 h1) ?_
  simp
  refine Wp.rw (run_row_of_others h2 hr hn) ?_
  simp
/-- the test with a number -/
def tst (ts : List TT) (i : Int) : TT := (ts[i.toNat]?).getD ⟨[], [], []⟩
theorem tst_get {i : Int} (h0 : 0 ≤ i) (h1 : i < ts.length) : ts[i.toNat]? = some (tst ts i) := by
  have : i.toNat < ts.length := by omega
  unfold tst
  simp [this]
theorem tst_ok (h : SOk s ts) {i : Int} (h0 : 0 ≤ i) (h1 : i < ts.length) : TOk s.length (tst ts i) := h.t1 _ (List.mem_of_getElem? (tst_get h0 h1))
theorem atI_tst {i : Int} (h0 : 0 ≤ i) (h1 : i < ts.length) : atI (ts.map TT.d) i = some (tst ts i).d := by
  rw [atI_get h0 (by simpa using h1), List.getElem?_map, tst_get h0 h1]
  rfl
theorem run_verdict_of (h : SOk s ts) {i : Int} (h0 : 0 ≤ i) (h1 : i < ts.length) {r : List Int} (hr : ROk ts.length r) : F_verdict_of.run [suD s ts, .int i, intsT r] = some (.val (.bl (pass (bh ts s r) (tst ts i))), []) := by
  refine Wp.eq ?_
  rw [fr_verdict_of]; unfold B_verdict_of
  simp
  refine Wp.rw (run_behind h hr) ?_
  simp
  refine Wp.rw (run_item h0 (tst_get h0 h1)) ?_
  simp
  refine Wp.rw (run_passes_at (tst_ok h h0 h1) (bh_len _ _ _)) ?_
  simp
theorem run_verdict (h : SOk s ts) {i : Int} (h0 : 0 ≤ i) (h1 : i < ts.length) {r : List Int} (hr : ROk ts.length r) (hn : i ∉ r) : F_verdict.run [suD s ts, .int i, intsT r] = some (.val (.bl (pass (bh ts s r) (tst ts i))), []) := by
  refine Wp.eq ?_
  rw [fr_verdict]; unfold B_verdict
  simp
  refine Wp.rw (run_need_others h.t2 h0 h1 hr hn) ?_
  simp
  refine Wp.rw (run_verdict_of h h0 h1 hr) ?_
  simp
/-- the other numbers -/
def others (m : Nat) (i : Int) : List Int := ((List.range m).map fun j : Nat => (j : Int)).filter fun j => j ≠ i
theorem others_ok {m : Nat} (hm : m ≤ 6) (i : Int) : ROk m (others m i) ∧ i ∉ others m i := by
  have sub : (others m i).Sublist _ := List.filter_sublist
  refine ⟨⟨fun j hj => range_mem j (sub.subset hj), (range_nodup m).sublist sub, ?_⟩, fun h => ?_⟩
  · have := sub.length_le
    simp at this
    omega
  · have := (List.mem_filter.mp h).2
    simp at this
theorem ROk.rev {m : Nat} {r : List Int} (h : ROk m r) : ROk m r.reverse := ⟨fun i hi => h.r1 i (List.mem_reverse.mp hi), List.pairwise_reverse.mpr (h.r2.imp fun h e => h e.symm), by rw [List.length_reverse]; exact h.r3⟩
/-! ### the frame -/
theorem applyW_ok {w : List (Int × Int)} : ∀ {r : List Int}, (∀ p ∈ w, 0 ≤ p.2 ∧ p.2 ≤ 2) → (∀ i ∈ r, 0 ≤ i ∧ i ≤ 2) → ∀ i ∈ applyW r w, 0 ≤ i ∧ i ≤ 2 := by
  induction w with
  | nil => intro r _ h; exact h
  | cons p w ih =>
    intro r hw h
    show ∀ i ∈ applyW (r.set _ _) w, _
    refine ih (fun q hq => hw q (List.mem_cons_of_mem _ hq)) fun i hi => ?_
    rcases List.mem_or_eq_of_mem_set hi with e | e
    · exact h i e
    · rw [e]; exact hw p (List.mem_cons_self ..)
theorem bh_ok (h : SOk s ts) : ∀ (row : List Int) {r : List Int}, (∀ i ∈ r, 0 ≤ i ∧ i ≤ 2) → ∀ i ∈ bh ts r row, 0 ≤ i ∧ i ≤ 2
  | [], r, hr => hr
  | j :: row, r, hr => by
    show ∀ i ∈ bh ts (applyW r _) row, _
    refine bh_ok h row (applyW_ok (fun p hp => ?_) hr)
    cases q : ts[j.toNat]? with
    | none => rw [q] at hp; simp at hp
    | some t =>
      rw [q] at hp
      have ht := h.t1 t (List.mem_of_getElem? q)
      have := ht.w1 p (by simpa using hp)
      omega
theorem rec_shown (h : SOk s ts) (row : List Int) : ∃ x, shownD (.lst [intsT (bh ts s row), intsT (bh ts s row)]) = some x ∧ PyData.strOk x = true := by
  have b := bh_ok h row h.s1
  have l := bh_len ts row s
  have l3 := h.s3
  have r1 := rp_ints (l := bh ts s row) fun i hi => by have := b i hi; omega
  have w1 := wt_ints (bh ts s row)
  have d1 := dep_ints (bh ts s row)
  refine shown_ok ?_ ?_ ?_
  · simp only [rp, rps] at *
    simp [r1]
  · simp only [dep, deps] at *
    omega
  · simp only [wt, wts] at *
    omega
theorem row_shown {m : Nat} (hm : m ≤ 6) {r : List Int} (h : ROk m r) : ∃ x, shownD (intsT r) = some x ∧ PyData.strOk x = true := by
  have w1 := wt_ints r
  have d1 := dep_ints r
  have l3 := h.r3
  exact shown_ok (rp_ints fun i hi => by have := h.r1 i hi; omega) (by omega) (by omega)
theorem range_ok {m : Nat} (hm : m ≤ 6) : ROk m ((List.range m).map fun i : Nat => (i : Int)) := ⟨range_mem, range_nodup m, by simp; omega⟩
theorem eqD_is (l : List Int) : eqD (.lst (l.map D.int)) (.lst []) = some (decide (l = [])) := by
  have := deps_map D.int (k := 0) (l := l) fun a _ => by simp [dep]
  refine eqD_pln ?_ (by simp [pln, plns]) ?_ (by simp [dep, deps]) ?_
  · simp only [pln]
    exact plns_map _ fun a _ => by simp [pln]
  · simp only [dep]; omega
  · cases l <;> simp
theorem atI_last {l : List Int} (h : l ≠ []) : atI (l.map D.int) (-1) = some (.int (l.getLast?.getD (-1))) := by
  have hp : 0 < l.length := List.length_pos_iff.mpr h
  unfold atI ixN
  have h1 : ¬ (0 : Int) ≤ -1 := by omega
  have h2 : -(((l.map D.int).length : Nat) : Int) ≤ -1 := by simp; omega
  rw [if_neg h1, if_pos h2]
  have h3 : (-1 + (((l.map D.int).length : Nat) : Int)).toNat = l.length - 1 := by simp; omega
  rw [h3]
  simp [List.getLast?_eq_getElem?]
  cases q : l[l.length - 1]? with
  | none => rw [List.getElem?_eq_none_iff] at q; omega
  | some v => simp
/-- whether a test writes a field -/
def wr (t : TT) (f : Int) : Bool := t.w.any fun p => decide (p.1 = f)
def lastW (ts : List TT) (row : List Int) (f : Int) : Int := ((row.filter fun i => wr (tst ts i) f).getLast?).getD (-1)
theorem run_does_write (h : SOk s ts) {i : Int} (h0 : 0 ≤ i) (h1 : i < ts.length) (f : Int) : F_does_write.run [suD s ts, .int i, .int f] = some (.val (.bl (wr (tst ts i) f)), []) := by
  refine Wp.eq ?_
  have ok := tst_ok h h0 h1
  rw [fr_does_write]; unfold B_does_write
  simp
  refine Wp.rw (run_item h0 (tst_get h0 h1)) ?_
  simp
  refine wp_map (l := (tst ts i).w) pairT (fun p => .bl (decide (p.1 = f))) (fun p hp => ?_) (by have := ok.w3; unfold big; omega) ?_
  · simp
  simp [wr]
theorem fm_bl (p : Int → Bool) : ∀ l : List Int, l.filterMap (fun j => if p j then some (D.int j) else none) = (l.filter p).map D.int
  | [] => rfl
  | x :: l => by
    have ih := fm_bl p l
    cases q : p x <;> simp [q, ih]
theorem run_last_writer (h : SOk s ts) {r : List Int} (hr : ROk ts.length r) (f : Int) : F_last_writer.run [suD s ts, intsT r, .int f] = some (.val (.int (lastW ts r f)), []) := by
  refine Wp.eq ?_
  have r3 := hr.r3
  rw [fr_last_writer]; unfold B_last_writer
  simp
  refine wp_comp (l := r) D.int (fun j => if wr (tst ts j) f then some (.int j) else none) (fun j hj => ?_) (by simp [big]; omega) ?_
  · have q := hr.r1 j hj
    simp
    refine Wp.rw (run_does_write h q.1 q.2 f) ?_
    cases w : wr (tst ts j) f <;> simp [w]
  rw [fm_bl]
  have e := eqD_is (r.filter fun i => wr (tst ts i) f)
  by_cases hn : (r.filter fun i => wr (tst ts i) f) = []
  · rw [hn] at e ⊢
    simp at e
    simp [e, lastW, hn]
  · rw [decide_eq_false hn] at e
    simp [e, atI_last hn, lastW]
theorem run_sources_of (h : SOk s ts) {i : Int} (h0 : 0 ≤ i) (h1 : i < ts.length) {r : List Int} (hr : ROk ts.length r) : F_sources_of.run [suD s ts, .int i, intsT r] = some (.val (intsT ((tst ts i).rd.map (lastW ts r))), []) := by
  refine Wp.eq ?_
  have ok := tst_ok h h0 h1
  rw [fr_sources_of]; unfold B_sources_of
  simp
  refine Wp.rw (run_item h0 (tst_get h0 h1)) ?_
  simp
  refine wp_map (l := (tst ts i).rd) D.int (fun f => .int (lastW ts r f)) (fun f hf => ?_) (by have := ok.r3; unfold big; omega) ?_
  · simp
    refine Wp.rw (run_last_writer h hr f) ?_
    simp
  simp
theorem run_sources (h : SOk s ts) {i : Int} (h0 : 0 ≤ i) (h1 : i < ts.length) {r : List Int} (hr : ROk ts.length r) (hn : i ∉ r) : F_sources.run [suD s ts, .int i, intsT r] = some (.val (intsT ((tst ts i).rd.map (lastW ts r))), []) := by
  refine Wp.eq ?_
  rw [fr_sources]; unfold B_sources
  simp
  refine Wp.rw (run_need_others h.t2 h0 h1 hr hn) ?_
  simp
  refine Wp.rw (run_sources_of h h0 h1 hr) ?_
  simp
/-! the law's own -/
theorem row_shown42 {m : Nat} {r : List Int} (h : ROk m r) (hm : m ≤ 6) : ∃ x, shownD (intsT r) = some x ∧ PyData.strOk x = true := by
  have w1 := wt_ints r
  have d1 := dep_ints r
  have l3 := h.r3
  exact shown_ok (rp_ints fun i hi => by have := h.r1 i hi; omega) (by omega) (by omega)
theorem src_shown {n : Nat} {t : TT} (h : TOk n t) {row : List Int} (hr : ROk ts.length row) (t2 : ts.length ≤ 6) : ∃ x, shownD (.lst [intsT (t.rd.map (lastW ts row)), intsT (t.rd.map (lastW ts row))]) = some x ∧ PyData.strOk x = true := by
  have l3 := h.r3
  have b : ∀ i ∈ t.rd.map (lastW ts row), i.natAbs < 1000 := fun i hi => by
    obtain ⟨f, hf, rfl⟩ := List.mem_map.mp hi
    unfold lastW
    cases q : (row.filter fun i => wr (tst ts i) f).getLast? with
    | none => simp
    | some v =>
      have m1 := List.mem_of_getLast? q
      have := hr.r1 v (List.mem_filter.mp m1).1
      simp
      omega
  have ll : (t.rd.map (lastW ts row)).length ≤ 3 := by rw [List.length_map]; exact l3
  generalize t.rd.map (lastW ts row) = L at *
  have r1 := rp_ints b
  have w1 := wt_ints L
  have d1 := dep_ints L
  refine shown_ok ?_ ?_ ?_
  · simp only [rp, rps] at *
    simp [r1]
  · simp only [dep, deps] at *
    omega
  · simp only [wt, wts] at *
    omega
theorem rp_d {n : Nat} {t : TT} (h : TOk n t) (hn : n ≤ 5) : rp t.d = true := by
  have h1 := rps_map pairT (l := t.w) fun p hp => by
    have q := h.w1 p hp
    have a1 : p.1.natAbs < 1000 := by omega
    have a2 : p.2.natAbs < 1000 := by omega
    simp [rp, rps, a1, a2]
  have h2 := rp_ints (l := t.rd) fun i hi => by have := h.r1 i hi; omega
  have h3 := rps_map intsT (l := t.fl) fun v hv => rp_ints fun i hi => by have := (h.f1 v hv).1 i hi; omega
  simp only [rp, rps] at *
  simp [h1, h2, h3]
theorem wt_d {n : Nat} {t : TT} (h : TOk n t) : wt t.d ≤ 1200 := by
  have h1 := wts_map pairT (k := 22) (l := t.w) fun p hp => by simp [wt, wts]
  have h2 := wt_ints t.rd
  have h3 := wts_map intsT (k := 33) (l := t.fl) fun v hv => by
    have := wt_ints v
    have := (h.f1 v hv).2
    have := h.r3
    omega
  have a1 := h.w3
  have a2 := h.r3
  have a3 := h.f3
  simp only [wt, wts] at *
  omega
theorem rp_ts (h : SOk s ts) : rp (.tup (ts.map TT.d)) = true ∧ wt (.tup (ts.map TT.d)) ≤ 7206 ∧ dep (.tup (ts.map TT.d)) ≤ 4 := by
  refine ⟨?_, ?_, ?_⟩
  · simp only [rp]
    exact rps_map _ fun t ht => rp_d (h.t1 t ht) h.s3
  · have h1 := wts_map TT.d (k := 1200) (l := ts) fun t ht => wt_d (h.t1 t ht)
    have := h.t2
    simp only [wt]
    omega
  · have h1 := deps_map TT.d (k := 3) (l := ts) fun t _ => dep_d t
    simp only [dep]
    omega
theorem rp_s (h : SOk s ts) : rp (intsT s) = true ∧ wt (intsT s) ≤ 55 := ⟨rp_ints fun i hi => by have := h.s1 i hi; omega, by have := wt_ints s; have := h.s3; omega⟩
theorem rp_bls (l : List Bool) : rp (.tup (l.map .bl)) = true ∧ wt (.tup (l.map .bl)) ≤ l.length * 11 ∧ dep (.tup (l.map .bl)) ≤ 1 := by
  refine ⟨?_, ?_, ?_⟩
  · simp only [rp]
    exact rps_map _ fun a _ => by simp [rp]
  · simp only [wt]
    exact wts_map (k := 10) _ fun a _ => by simp [wt]
  · have := deps_map D.bl (k := 0) (l := l) fun a _ => by simp [dep]
    simp only [dep]
    omega
/-- the verdicts of a row -/
def verd (ts : List TT) : List Int → List Int → List Bool
  | _, [] => []
  | r, i :: row => pass r (tst ts i) :: verd ts (applyW r (tst ts i).w) row
abbrev blsT (l : List Bool) : D := .tup (l.map .bl)
theorem verd_len (ts : List TT) : ∀ (row r : List Int), (verd ts r row).length = row.length
  | [], _ => rfl
  | i :: row, r => by show (verd ts _ row).length + 1 = _; rw [verd_len ts row]; rfl
theorem run_verdicts_of (h : SOk s ts) {row : List Int} (hr : ∀ i ∈ row, 0 ≤ i ∧ i < ts.length) (hl : row.length ≤ 100) {r0 : List Int} (h0 : r0.length = s.length) : F_verdicts_of.run [intsT r0, .tup (ts.map TT.d), intsT row] = some (.val (blsT (verd ts r0 row)), []) := by
  refine Wp.eq ?_
  rw [fr_verdicts_of]; unfold B_verdicts_of
  simp
  obtain ⟨J, hJ⟩ : ∃ J : List D → Ro → Prop, J = fun rest ρ => ∃ (l r : List Int) (acc : List Bool) (x4 : Option W), rest = l.map D.int ∧ ρ = [some (.val (intsT r)), some (.val (.tup (ts.map TT.d))), some (.val (intsT row)), some (.own (acc.map D.bl)), x4] ∧ (∀ i ∈ l, 0 ≤ i ∧ i < ts.length) ∧ r.length = s.length ∧ acc ++ verd ts r l = verd ts r0 row ∧ acc.length + l.length = row.length := ⟨_, rfl⟩
  refine wp_for J ?_ (by rw [hJ]; exact ⟨row, r0, [], none, rfl, rfl, hr, h0, rfl, by simp⟩) ?_
  · intro d rest ρ h0
    rw [hJ] at h0
    obtain ⟨l, r, acc, x5, e, rfl, hi, hrl, hv, hal⟩ := h0
    cases l with
    | nil => simp at e
    | cons i l =>
      simp at e hal
      obtain ⟨rfl, rfl⟩ := e
      have q := hi i (List.mem_cons_self ..)
      have ok := tst_ok h q.1 q.2
      have ab : acc.length < big := by unfold big; omega
      simp [atI_tst q.1 q.2]
      refine Wp.rw (run_passes_at ok hrl) ?_
      simp [ab, atI_tst q.1 q.2]
      refine Wp.rw (run_after ok (by rw [hrl]; exact h.s3)) ?_
      simp
      rw [hJ]
      exact ⟨l, applyW r (tst ts i).w, acc ++ [pass r (tst ts i)], _, rfl, by simp; rfl, fun j hj => hi j (List.mem_cons_of_mem _ hj), by rw [applyW_len, hrl], by rw [← hv]; simp [verd], by simp; omega⟩
  · intro ρ h0
    rw [hJ] at h0
    obtain ⟨l, r, acc, x5, e, rfl, hi, hrl, hv, hal⟩ := h0
    have : l = [] := by simpa using e.symm
    subst this
    simp [verd] at hv
    subst hv
    simp
theorem run_call (h : SOk s ts) {row : List Int} (hr : ROk ts.length row) : F_Suite_call.run [suD s ts, intsT row] = some (.val (blsT (verd ts s row)), []) := by
  refine Wp.eq ?_
  rw [fr_Suite_call]; unfold B_Suite_call
  simp [insRun]
  refine Wp.rw (run_are_numbers hr) ?_
  simp
  refine Wp.rw (run_verdicts_of h hr.r1 (by have := hr.r3; omega) rfl) ?_
  simp
theorem run_tests (s : List Int) (ts : List TT) : F_Suite_tests.run [suD s ts] = some (.val (.tup (ts.map TT.d)), []) := by
  refine Wp.eq ?_
  rw [fr_Suite_tests]; unfold B_Suite_tests
  simp [insRun]

/-! equal data with bools -/
mutual
def pl2 : D → Bool
  | .int _ => true
  | .non => true
  | .bl _ => true
  | .str x => PyData.strOk x
  | .tup ds => pl2s ds
  | .lst ds => pl2s ds
  | _ => false
def pl2s : List D → Bool
  | [] => true
  | d :: r => pl2 d && pl2s r
end
mutual
theorem pl2_py : ∀ d : D, pl2 d = true → toPy d = some (pyO d) ∧ (pyO d).canLay0 = true ∧ (pyO d).depth = dep d ∧ PyData.eqv (pyO d) (pyO d) = true
  | .int _, _ => ⟨by simp [toPy, pyO], by simp [pyO, PyData.canLay0], by simp [pyO, PyData.depth, dep], by simp [pyO, PyData.eqv]⟩
  | .non, _ => ⟨by simp [toPy, pyO], by simp [pyO, PyData.canLay0], by simp [pyO, PyData.depth, dep], by simp [pyO, PyData.eqv]⟩
  | .bl _, _ => ⟨by simp [toPy, pyO], by simp [pyO, PyData.canLay0], by simp [pyO, PyData.depth, dep], by simp [pyO, PyData.eqv]⟩
  | .str x, h => ⟨by simp [toPy, pyO], by simpa [pyO, PyData.canLay0, pl2] using h, by simp [pyO, PyData.depth, dep], by simp [pyO, PyData.eqv]⟩
  | .tup ds, h => by
    obtain ⟨h1, h2, h3, h4⟩ := pl2s_py ds (by simpa [pl2] using h)
    exact ⟨by simp [toPy, pyO, h1], by simpa [pyO, PyData.canLay0] using h2, by simp [pyO, PyData.depth, dep, h3], by simpa [pyO, PyData.eqv] using h4⟩
  | .lst ds, h => by
    obtain ⟨h1, h2, h3, h4⟩ := pl2s_py ds (by simpa [pl2] using h)
    exact ⟨by simp [toPy, pyO, h1], by simpa [pyO, PyData.canLay0] using h2, by simp [pyO, PyData.depth, dep, h3], by simpa [pyO, PyData.eqv] using h4⟩
  | .ins _ _, h => by simp [pl2] at h
  | .cls _, h => by simp [pl2] at h
  | .dic _ _, h => by simp [pl2] at h
theorem pl2s_py : ∀ ds : List D, pl2s ds = true → toPys ds = some (pyOs ds) ∧ PyData.canLayAll0 (pyOs ds) = true ∧ PyData.depthAll (pyOs ds) = deps ds ∧ PyData.eqvAll (pyOs ds) (pyOs ds) = true
  | [], _ => ⟨by simp [toPys, pyOs], by simp [pyOs, PyData.canLayAll0], by simp [pyOs, PyData.depthAll, deps], by simp [pyOs, PyData.eqvAll]⟩
  | d :: r, h => by
    have h : pl2 d = true ∧ pl2s r = true := by simpa [pl2s] using h
    obtain ⟨h1, h2, h3, h4⟩ := pl2_py d h.1
    obtain ⟨g1, g2, g3, g4⟩ := pl2s_py r h.2
    exact ⟨by simp [toPys, pyOs, h1, g1], by simp [pyOs, PyData.canLayAll0, h2, g2], by simp [pyOs, PyData.depthAll, deps, h3, g3], by simp [pyOs, PyData.eqvAll, h4, g4]⟩
end
theorem eqD_refl {d : D} (h : pl2 d = true) (hd : dep d ≤ 64) : eqD d d = some true := by
  obtain ⟨h1, h2, h3, h4⟩ := pl2_py d h
  unfold eqD
  rw [h1]
  have : SeqAt.shaped (pyO d) = true := by
    unfold SeqAt.shaped
    rw [h2, h3]
    simpa using hd
  simp [this, h4]
theorem eqD_bls (l : List Bool) : eqD (.tup (l.map .bl)) (.tup (l.map .bl)) = some true := by
  refine eqD_refl ?_ (by have := (rp_bls l).2.2; omega)
  simp only [pl2]
  induction l with
  | nil => rfl
  | cons b l ih => simp only [List.map_cons, pl2s, pl2, ih]; rfl
theorem eqD_isame (l : List Int) : eqD (intsT l) (intsT l) = some true := eqD_same (pln_ints l) (by have := dep_ints l; omega)
/-! a row in two parts -/
theorem bh_app (ts : List TT) (r : List Int) (a b : List Int) : bh ts r (a ++ b) = bh ts (bh ts r a) b := by unfold bh; rw [List.foldl_append]
theorem bh_cut (ts : List TT) (r row : List Int) (k : Nat) : bh ts (bh ts r (row.take k)) (row.drop k) = bh ts r row := by rw [← bh_app, List.take_append_drop]
theorem bh_cons {i : Int} (h0 : 0 ≤ i) (h1 : i < ts.length) (r row : List Int) : bh ts r (i :: row) = bh ts (applyW r (tst ts i).w) row := by
  show bh ts (applyW r _) row = _
  rw [tst_get h0 h1]
  rfl
theorem verd_app {a b : List Int} : ∀ {r : List Int}, (∀ i ∈ a, 0 ≤ i ∧ i < ts.length) → verd ts r (a ++ b) = verd ts r a ++ verd ts (bh ts r a) b := by
  induction a with
  | nil => intro r _; rfl
  | cons i a ih =>
    intro r h
    have q := h i (List.mem_cons_self ..)
    rw [bh_cons q.1 q.2]
    show pass r (tst ts i) :: verd ts _ (a ++ b) = _
    rw [ih fun j hj => h j (List.mem_cons_of_mem _ hj)]
    rfl
theorem verd_drop {row : List Int} (h : ∀ i ∈ row, 0 ≤ i ∧ i < ts.length) (r : List Int) {k : Nat} (hk : k ≤ row.length) : (verd ts r row).drop k = verd ts (bh ts r (row.take k)) (row.drop k) := by
  have e : verd ts r row = verd ts r (row.take k) ++ verd ts (bh ts r (row.take k)) (row.drop k) := by
    rw [← verd_app fun i hi => h i (List.mem_of_mem_take hi), List.take_append_drop]
  rw [e]
  refine List.drop_left' ?_
  rw [verd_len, List.length_take]
  omega
theorem verd_get {row : List Int} (h : ∀ i ∈ row, 0 ≤ i ∧ i < ts.length) (r : List Int) {k : Nat} (hk : k < row.length) : (verd ts r row)[k]? = some (pass (bh ts r (row.take k)) (tst ts row[k])) := by
  have e := verd_drop h r (k := k) (by omega)
  rw [List.drop_eq_getElem_cons hk] at e
  have : (verd ts r row)[k]? = ((verd ts r row).drop k)[0]? := by rw [List.getElem?_drop]; rfl
  rw [this, e]
  rfl
theorem bh_sok (h : SOk s ts) (row : List Int) : SOk (bh ts s row) ts := ⟨bh_ok h row h.s1, by rw [bh_len]; exact h.s2, by rw [bh_len]; exact h.s3, fun t ht => by rw [bh_len]; exact h.t1 t ht, h.t2⟩
theorem ROk.sub {m : Nat} {r r' : List Int} (h : ROk m r) (s : r'.Sublist r) : ROk m r' := ⟨fun i hi => h.r1 i (s.subset hi), h.r2.sublist s, Nat.le_trans s.length_le h.r3⟩
/-! who wrote a field last -/
theorem lookW_at {w : List (Int × Int)} {f v : Int} (h : w.any (fun p => decide (p.1 = f)) = true) (u : Int) : lookW w f v = lookW w f u := by
  induction w with
  | nil => simp at h
  | cons p w ih =>
    unfold lookW
    by_cases c : p.1 = f
    · rw [if_pos c, if_pos c]
    · rw [if_neg c, if_neg c]
      exact ih (by simpa [c] using h)
theorem lastW_snoc (ts : List TT) (a : List Int) (i f : Int) : lastW ts (a ++ [i]) f = if wr (tst ts i) f then i else lastW ts a f := by
  unfold lastW
  rw [List.filter_append]
  cases c : wr (tst ts i) f <;> simp [c]
theorem bh_field (h : SOk s ts) {f : Int} (f0 : 0 ≤ f) : ∀ (n : Nat) (row : List Int), row.length = n → (∀ i ∈ row, 0 ≤ i ∧ i < ts.length) →
    ((bh ts s row)[f.toNat]?).getD 0 = if lastW ts row f = -1 then (s[f.toNat]?).getD 0 else if f.toNat < s.length then lookW (tst ts (lastW ts row f)).w f 0 else 0 := by
  intro n
  induction n with
  | zero =>
    intro row hn _
    have : row = [] := List.length_eq_zero_iff.mp hn
    subst this
    rfl
  | succ n ih =>
    intro row hn hr
    obtain ⟨a, i, rfl⟩ : ∃ a i, row = a ++ [i] := by
      refine ⟨row.dropLast, row.getLast (by intro e; subst e; simp at hn), (List.dropLast_concat_getLast _).symm⟩
    have ha : a.length = n := by simpa using hn
    have hra : ∀ j ∈ a, 0 ≤ j ∧ j < ts.length := fun j hj => hr j (List.mem_append_left _ hj)
    have q := hr i (List.mem_append_right _ (List.mem_singleton.mpr rfl))
    have ok := tst_ok h q.1 q.2
    have e1 : bh ts s (a ++ [i]) = applyW (bh ts s a) (tst ts i).w := by
      rw [bh_app, bh_cons q.1 q.2]
      rfl
    have fe : ((f.toNat : Nat) : Int) = f := by omega
    rw [e1, applyW_get (fun p hp => (ok.w1 p hp).1) ok.w2, lastW_snoc, fe]
    cases c : wr (tst ts i) f with
    | true =>
      rw [if_pos rfl, if_neg (by omega)]
      by_cases l : f.toNat < s.length
      · rw [if_pos l]
        have l2 : f.toNat < (bh ts s a).length := by rw [bh_len]; exact l
        rw [List.getElem?_eq_getElem l2]
        exact lookW_at c 0
      · rw [if_neg l, List.getElem?_eq_none (by rw [bh_len]; omega)]
        rfl
    | false =>
      have no : ∀ p ∈ (tst ts i).w, p.1 ≠ f := fun p hp e => by
        have : wr (tst ts i) f = true := by unfold wr; rw [List.any_eq_true]; exact ⟨p, hp, by simpa using e⟩
        rw [c] at this
        cases this
      have e2 : ∀ o : Option Int, (o.map fun v => lookW (tst ts i).w f v).getD 0 = o.getD 0 := fun o => by
        cases o with
        | none => rfl
        | some v => exact lookW_no no
      rw [e2]
      exact ih a ha hra
end DT

end
section
/-! Plain law: the forms' tables and bodies, for simp (printed by gen_pl.py). -/
namespace DT
open PySem L2
@[scoped simp] theorem gle__law_made_Suite : gl__law_made "Suite" = some (.cls "Suite") := rfl
@[scoped simp] theorem fm__law_source : F__law_source.modes = [.val] := rfl
theorem fr__law_source (ds : List D) : F__law_source.run ds = ((runFn (fun f => ([] : List Fn)[f]?) gl__law_source [.val] 1 B__law_source)) ds := rfl
@[scoped simp] theorem fm__law_cell : F__law_cell.modes = [.bor, .val] := rfl
theorem fr__law_cell (ds : List D) : F__law_cell.run ds = ((runFn (fun f => ([] : List Fn)[f]?) gl__law_cell [.bor, .val] 2 B__law_cell)) ds := rfl
@[scoped simp] theorem fm__law_draw : F__law_draw.modes = [.own, .val] := rfl
theorem fr__law_draw (ds : List D) : F__law_draw.run ds = ((runFn (fun f => ([] : List Fn)[f]?) gl__law_draw [.own, .val] 4 B__law_draw)) ds := rfl
@[scoped simp] theorem fm__law_choose : F__law_choose.modes = [.own, .bor] := rfl
theorem fr__law_choose (ds : List D) : F__law_choose.run ds = ((runFn (fun f => ([F__law_draw] : List Fn)[f]?) gl__law_choose [.own, .bor] 2 B__law_choose)) ds := rfl
@[scoped simp] theorem fm__law_test : F__law_test.modes = [.own, .val] := rfl
theorem fr__law_test (ds : List D) : F__law_test.run ds = ((runFn (fun f => ([F__law_draw, F__law_choose] : List Fn)[f]?) gl__law_test [.own, .val] 11 B__law_test)) ds := rfl
@[scoped simp] theorem fm__law_suite : F__law_suite.modes = [.own, .val] := rfl
theorem fr__law_suite (ds : List D) : F__law_suite.run ds = ((runFn (fun f => ([F__law_choose, F__law_draw, F__law_test] : List Fn)[f]?) gl__law_suite [.own, .val] 8 B__law_suite)) ds := rfl
@[scoped simp] theorem fm__law_text : F__law_text.modes = [.val, .val] := rfl
theorem fr__law_text (ds : List D) : F__law_text.run ds = ((runFn (fun f => ([] : List Fn)[f]?) gl__law_text [.val, .val] 14 B__law_text)) ds := rfl
@[scoped simp] theorem fm__law_made : F__law_made.modes = [.val, .val] := rfl
theorem fr__law_made (ds : List D) : F__law_made.run ds = ((runFn (fun f => ([F_Suite_read, F__law_text] : List Fn)[f]?) gl__law_made [.val, .val] 2 B__law_made)) ds := rfl
@[scoped simp] theorem fm__law_passes : F__law_passes.modes = [.val, .val] := rfl
theorem fr__law_passes (ds : List D) : F__law_passes.run ds = ((runFn (fun f => ([] : List Fn)[f]?) gl__law_passes [.val, .val] 3 B__law_passes)) ds := rfl
@[scoped simp] theorem fm__law_behind : F__law_behind.modes = [.val, .val, .val] := rfl
theorem fr__law_behind (ds : List D) : F__law_behind.run ds = ((runFn (fun f => ([] : List Fn)[f]?) gl__law_behind [.val, .val, .val] 7 B__law_behind)) ds := rfl
@[scoped simp] theorem fm__law_verdict : F__law_verdict.modes = [.val, .val, .val, .val] := rfl
theorem fr__law_verdict (ds : List D) : F__law_verdict.run ds = ((runFn (fun f => ([F__law_passes, F__law_behind] : List Fn)[f]?) gl__law_verdict [.val, .val, .val, .val] 4 B__law_verdict)) ds := rfl
@[scoped simp] theorem fm__law_is_equal : F__law_is_equal.modes = [.val, .val] := rfl
theorem fr__law_is_equal (ds : List D) : F__law_is_equal.run ds = ((runFn (fun f => ([] : List Fn)[f]?) gl__law_is_equal [.val, .val] 2 B__law_is_equal)) ds := rfl
end DT

end
section
/-! Plain law, third family: what is drawn. -/
namespace DT
open PySem L2
/-- a source that was used at most k times -/
def PenOk (k : Nat) (pen : List D) : Prop := ∃ a b c : Int, pen = [.int a, .int b, .int c] ∧ 0 ≤ a ∧ 0 ≤ b ∧ b < 2147483648 ∧ 0 ≤ c ∧ c ≤ k
theorem PenOk.mono {j k : Nat} {pen : List D} (h : PenOk j pen) (l : j ≤ k) : PenOk k pen := by
  obtain ⟨a, b, c, e, h0, h1, h2, h3, h4⟩ := h
  exact ⟨a, b, c, e, h0, h1, h2, h3, by omega⟩
theorem run_pen (i : Int) : Wp (F__law_source.run [.int i]) fun w outs => outs = [] ∧ ∃ pen, w = .own pen ∧ PenOk 0 pen := by
  rw [fr__law_source]; unfold B__law_source
  simp
  refine ⟨_, _, _, rfl, ?_, ?_, ?_, by omega, by omega⟩
  · split <;> omega
  · omega
  · omega
theorem run_cell_at (ns : List Int) {k : Int} (h : 0 ≤ k) : Wp (F__law_cell.run [.lst (ns.map D.int), .int k]) fun w outs => outs = [] ∧ ∃ i, w = .val (.int i) := by
  rw [fr__law_cell]; unfold B__law_cell
  simp
  by_cases hk : k < ns.length
  · have e : atI (ns.map D.int) k = some (.int (ns[k.toNat]'(by omega))) := by
      rw [atI_get h (by simpa using hk)]
      simp
    simp [hk, e]
  · simp [hk]
/-- a draw -/
theorem run_draw {k : Nat} {pen : List D} (h : PenOk k pen) (hk : k ≤ 1000000) {m : Int} (m0 : 0 < m) (m1 : m ≤ 1000000) : Wp (F__law_draw.run [.lst pen, .int m]) fun w outs => ∃ v pen', w = .val (.int v) ∧ outs = [pen'] ∧ 0 ≤ v ∧ v < m ∧ PenOk (k + 1) pen' := by
  obtain ⟨a, b, c, rfl, h0, h1, h2, h3, h4⟩ := h
  rw [fr__law_draw]; unfold B__law_draw
  have m2 : m < 1073741824 := by omega
  by_cases ha : 0 < a
  · simp [ha, m0, m2]
    exact ⟨Int.emod_nonneg _ (by omega), Int.emod_lt_of_pos _ m0, _, _, _, rfl, Int.ediv_nonneg h0 (by omega), h1, h2, h3, by omega⟩
  · simp [ha]
    refine Wq.rw (mul_a (by omega) (by omega)) ?_
    simp
    refine Wq.rw (mul_a (by omega) (by omega)) ?_
    simp
    generalize e1 : (b * 48271 + 1009 * (c + 1) + 7) % 2147483647 = s1
    have s10 : 0 ≤ s1 := by rw [← e1]; exact Int.emod_nonneg _ (by decide)
    have s11 : s1 < 2147483647 := by rw [← e1]; exact Int.emod_lt_of_pos _ (by decide)
    refine Wq.rw (mul_a (by omega) (by omega)) ?_
    simp
    refine Wq.rw (mul_a (by omega) (by omega)) ?_
    simp
    generalize e2 : (s1 * s1 + 69621 * s1 + 11) % 2147483629 = s2
    have s20 : 0 ≤ s2 := by rw [← e2]; exact Int.emod_nonneg _ (by decide)
    have s21 : s2 < 2147483629 := by rw [← e2]; exact Int.emod_lt_of_pos _ (by decide)
    refine Wq.rw (mul_a (by omega) (by omega)) ?_
    simp
    refine Wq.rw (mul_a (by omega) (by omega)) ?_
    simp [m0]
    exact ⟨Int.emod_nonneg _ (by omega), Int.emod_lt_of_pos _ m0, _, _, _, rfl, h0, by omega, by omega, by omega, by omega⟩
/-- one of some values -/
theorem run_choose {k : Nat} {pen : List D} (h : PenOk k pen) (hk : k ≤ 1000000) {l : List D} (l0 : l ≠ []) (l1 : l.length ≤ 1000) : Wp (F__law_choose.run [.lst pen, .lst l]) fun w outs => ∃ d pen', w = .val d ∧ outs = [pen'] ∧ d ∈ l ∧ PenOk (k + 1) pen' := by
  rw [fr__law_choose]; unfold B__law_choose
  have lp : 0 < l.length := List.length_pos_iff.mpr l0
  simp
  refine Wp.of (run_draw h hk (by omega) (by omega)) ?_
  rintro _ _ ⟨v, pen', rfl, rfl, v0, v1, hp⟩
  have e : atI l v = some (l[v.toNat]'(by omega)) := by
    rw [atI_get v0 v1]
    simp
  simp [e]
  exact hp
end DT

end
section
/-! Plain law, third family: a drawn test. -/
namespace DT
open PySem L2
theorem tup_inner {Γ : Nat → Option Fn} {gl : Str → Option D} {lo : Nat} {y0 y1 y2 y3 y4 y5 x7 : Option W} (h : lo < 3) (hx7 : clearW x7 = true) (Q : Out → Ro → Prop) (q : ∀ x7, clearW x7 = true → Q .nx [y0, y1, y2, y3, y4, y5, some (.own ((tups (lo + 1)).map intsT)), x7, none, none, none]) :
    Wp (forL (.name 7) (fun ρ => evSs Γ gl [.ext 6 (.comp (.bin .add (.var 7) (.tup [(.var 10)])) (.name 10) (.rng1 (.cst (.int 3))) .nil [10])] ρ) ((tups lo).map intsT) [y0, y1, y2, y3, y4, y5, some (.own []), x7, none, none, none]) Q := by
  refine wp_for (fun rest' ρ => ∃ (r acc : List (List Int)) (x7 : Option W), rest' = r.map intsT ∧ acc ++ (r.flatMap fun v => [v ++ [0], v ++ [1], v ++ [2]]) = tups (lo + 1) ∧ ρ = [y0, y1, y2, y3, y4, y5, some (.own (acc.map intsT)), x7, none, none, none] ∧ (∀ v ∈ r, v.length ≤ 2) ∧ clearW x7 = true) ?_ ⟨tups lo, [], x7, rfl, rfl, rfl, fun v hv => ?_, hx7⟩ ?_
  · rintro d rest ρ ⟨r, acc, x7, e, ha, rfl, hv, h7⟩
    cases r with
    | nil => simp at e
    | cons v r =>
      simp at e
      obtain ⟨rfl, rfl⟩ := e
      have q := hv v (List.mem_cons_self ..)
      have i2 : v.length + 1 ≤ big := by unfold big; omega
      have e3 : rangeD 0 3 = [.int 0, .int 1, .int 2] := rfl
      simp [e3]
      refine wp_map (l := [(0 : Int), 1, 2]) D.int (fun i => intsT (v ++ [i])) (fun i _ => ?_) (by simp) ?_
      · simp [i2]
      have i3 : acc.length + 3 ≤ big := by
        have := (tups_ok (n := lo + 1) (by omega)).2.2
        rw [← ha] at this
        simp at this
        unfold big; omega
      simp [i3]
      exact ⟨r, rfl, acc ++ [v ++ [0], v ++ [1], v ++ [2]], by simpa using ha, some (.val (intsT v)), ⟨by simp, rfl⟩, fun v hv' => hv v (List.mem_cons_of_mem _ hv'), rfl⟩
  · have := ((tups_ok (n := lo) (by omega)).2.1 v hv).2
    omega
  · rintro ρ ⟨r, acc, x7, e, ha, rfl, _, h7⟩
    have : r = [] := by simpa using e.symm
    subst this
    simp at ha
    rw [ha]
    exact q _ h7
theorem run_test {n : Nat} (n1 : 1 ≤ n) (n5 : n ≤ 5) {K : Nat} {pen : List D} (hp : PenOk K pen) (hK : K ≤ 800000) :
    Wp (F__law_test.run [.lst pen, .int n]) fun w outs => ∃ t pen', w = .val (TT.d t) ∧ outs = [pen'] ∧ TOk n t ∧ PenOk (K + 100) pen' := by
  rw [fr__law_test]; unfold B__law_test
  have i1 : (n : Int) ≤ 1000000 := by omega
  have i0 : (-1000000 : Int) ≤ n := by omega
  simp [i1, i0]
  obtain ⟨I, hI⟩ : ∃ I : List D → Ro → List D → Prop, I = fun rest ρ acc => ∃ (k lo : Nat) (pen : List D) (w : List (Int × Int)), rest = rangeD lo n ∧ ρ = some (.own pen) :: some (.val (.int n)) :: List.replicate 9 none ∧ PenOk k pen ∧ k ≤ K + 2 * lo ∧ lo ≤ n ∧ acc = w.map pairT ∧ (∀ p ∈ w, 0 ≤ p.1 ∧ p.1 < lo ∧ 0 ≤ p.2 ∧ p.2 ≤ 2) ∧ (w.map (·.1)).Pairwise (· < ·) ∧ w.length ≤ lo := ⟨_, rfl⟩
  refine wp_comp_inv I ?_ (by rw [hI]; exact ⟨_, 0, pen, [], by simp, rfl, hp, by omega, by omega, rfl, by simp, by simp, by simp⟩) ?_
  · intro d r ρ acc h
    rw [hI] at h
    obtain ⟨k, lo, pen, w, e, rfl, hp, hk, hlo, rfl, w1, w2, w3⟩ := h
    obtain ⟨e1, rfl, rfl⟩ := rangeD_cons e
    refine ⟨by simp [big]; omega, ?_⟩
    simp
    refine Wp.of (run_draw hp (by omega) (by omega) (by omega)) ?_
    rintro _ _ ⟨v, pen2, rfl, rfl, v0, v1, hp2⟩
    by_cases hv : v < 2
    · simp [hv]
      refine Wp.of (run_draw hp2 (by omega) (by omega) (by omega)) ?_
      rintro _ _ ⟨u, pen3, rfl, rfl, u0, u1, hp3⟩
      simp
      rw [hI]
      refine ⟨k + 1 + 1, lo + 1, pen3, w ++ [((lo : Int), u)], by simp, rfl, hp3, by omega, by omega, by simp, fun p hp => ?_, ?_, by simp; omega⟩
      · rcases List.mem_append.mp hp with hp | hp
        · have := w1 p hp; omega
        · rw [List.mem_singleton.mp hp]
          show (0 : Int) ≤ lo ∧ (lo : Int) < ((lo + 1 : Nat) : Int) ∧ 0 ≤ u ∧ u ≤ 2
          omega
      · rw [List.map_append]
        refine pairwise_snoc w2 fun i hi => ?_
        obtain ⟨p, hp, rfl⟩ := List.mem_map.mp hi
        exact (w1 p hp).2.1
    · simp [hv]
      rw [hI]
      exact ⟨k + 1, lo + 1, pen2, w, by simp, rfl, hp2, by omega, by omega, rfl, fun p hp => by have := w1 p hp; omega, w2, by omega⟩
  intro acc ρ h
  rw [hI] at h
  obtain ⟨k, lo, pen, w, e, rfl, hp, hk, hlo, rfl, w1, w2, w3⟩ := h
  have := rangeD_nil e
  have : lo = n := by omega
  subst this
  clear hI I
  simp [i1, i0]
  obtain ⟨I, hI⟩ : ∃ I : List D → Ro → List D → Prop, I = fun rest ρ acc => ∃ (k a : Nat) (pen : List D) (r : List Int), rest = rangeD a lo ∧ ρ = some (.own pen) :: some (.val (.int lo)) :: some (.val (.tup (w.map pairT))) :: List.replicate 8 none ∧ PenOk k pen ∧ k ≤ K + 10 + a ∧ a ≤ lo ∧ acc = r.map D.int ∧ (∀ i ∈ r, 0 ≤ i ∧ i < a) ∧ r.Pairwise (· < ·) ∧ r.length ≤ a := ⟨_, rfl⟩
  refine wp_comp_inv I ?_ (by rw [hI]; exact ⟨_, 0, pen, [], by simp, rfl, hp, by omega, by omega, rfl, by simp, by simp, by simp⟩) ?_
  · intro d r ρ acc h
    rw [hI] at h
    obtain ⟨k, a, pen, r, e, rfl, hp, hk, ha, rfl, r1, r2, r3⟩ := h
    obtain ⟨e1, rfl, rfl⟩ := rangeD_cons e
    refine ⟨by simp [big]; omega, ?_⟩
    simp
    refine Wp.of (run_draw hp (by omega) (by omega) (by omega)) ?_
    rintro _ _ ⟨v, pen2, rfl, rfl, v0, v1, hp2⟩
    by_cases hv : v < 3
    · simp [hv]
      rw [hI]
      refine ⟨k + 1, a + 1, pen2, r ++ [(a : Int)], by simp, rfl, hp2, by omega, by omega, by simp, fun i hi => ?_, pairwise_snoc r2 fun i hi => (r1 i hi).2, by simp; omega⟩
      rcases List.mem_append.mp hi with hi | hi
      · have := r1 i hi; omega
      · rw [List.mem_singleton.mp hi]; omega
    · simp [hv]
      rw [hI]
      exact ⟨k + 1, a + 1, pen2, r, by simp, rfl, hp2, by omega, by omega, rfl, fun i hi => by have := r1 i hi; omega, r2, by omega⟩
  intro acc ρ h
  rw [hI] at h
  obtain ⟨k2, a, pen2, r, e, rfl, hp2, hk2, ha, rfl, r1, r2, r3⟩ := h
  have := rangeD_nil e
  have : a = lo := by omega
  subst this
  clear hI I
  have ct : cutD (r.map D.int) none (some 3) = (r.take 3).map D.int := by
    rw [cutD_to (by omega), List.map_take]
    rfl
  obtain ⟨rd, hrd⟩ : ∃ rd, r.take 3 = rd := ⟨_, rfl⟩
  have d1 : ∀ i ∈ rd, 0 ≤ i ∧ i < a := fun i hi => r1 i (List.mem_of_mem_take (hrd ▸ hi))
  have d2 : rd.Pairwise (· < ·) := by rw [← hrd]; exact r2.sublist (List.take_sublist ..)
  have d3 : rd.length ≤ 3 := by rw [← hrd, List.length_take]; omega
  rw [hrd] at ct
  simp [ct]
  obtain ⟨I, hI⟩ : ∃ I : List D → Ro → Prop, I = fun rest ρ => ∃ (b : Nat) (x4 x5 x6 x7 : Option W), rest = (rd.drop b).map D.int ∧ b ≤ rd.length ∧ ρ = [some (.own pen2), some (.val (.int a)), some (.val (.tup (w.map pairT))), some (.val (intsT rd)), x4, x5, x6, x7, none, none, none] ∧ clearW x7 = true ∧ (x4 = some (.own ((tups b).map intsT)) ∨ x4 = some (.val (.lst ((tups b).map intsT)))) := ⟨_, rfl⟩
  refine wp_for I ?_ (by rw [hI]; exact ⟨0, _, none, none, none, by simp, by omega, rfl, rfl, .inl rfl⟩) ?_
  · intro d rest ρ h
    rw [hI] at h
    obtain ⟨b, x4, x5, x6, x7, e, hb, rfl, h7, hx⟩ := h
    have lt : b < rd.length := by
      rcases Nat.lt_or_ge b rd.length with z | z
      · exact z
      · rw [List.drop_eq_nil_of_le z] at e; simp at e
    rw [List.drop_eq_getElem_cons lt, List.map_cons, List.cons.injEq] at e
    obtain ⟨rfl, rfl⟩ := e
    rcases hx with rfl | rfl
    all_goals
      simp
      refine tup_inner (by omega) h7 _ fun x7 h7 => ?_
      rw [a_kSeq_nx]
      simp
      rw [hI]
      exact ⟨b + 1, _, _, _, _, by simp, by omega, rfl, h7, by simp⟩
  · intro ρ h
    rw [hI] at h
    obtain ⟨b, x4, x5, x6, x7, e, hb, rfl, h7, hx⟩ := h
    have be : b = rd.length := by
      have := congrArg List.length e
      simp at this
      omega
    subst be
    clear hI I
    have tk := tups_ok d3
    have fin : ∀ fl : List (List Int), fl.Sublist (tups rd.length) → TOk a ⟨w, rd, fl⟩ := fun fl sub =>
      ⟨fun p hp => by have := w1 p hp; omega, w2, d1, d2, d3, fun v hv => tk.2.1 v (sub.subset hv), tk.1.sublist sub, Nat.le_trans sub.length_le tk.2.2, by show w.length ≤ 5; omega⟩
    rcases hx with rfl | rfl
    all_goals
      simp
      refine Wp.of (run_choose (l := [D.int 1, .int 2, .int 3, .int 3, .int 8]) hp2 (by omega) (by simp) (by simp)) ?_
      rintro _ _ ⟨d, pen3, rfl, rfl, dm, hp3⟩
      obtain ⟨z, rfl⟩ : ∃ z : Int, d = .int z := by
        simp at dm
        rcases dm with rfl | rfl | rfl | rfl <;> exact ⟨_, rfl⟩
      simp [h7]
      obtain ⟨I, hI⟩ : ∃ I : List D → Ro → List D → Prop, I = fun rest ρ acc => ∃ (k : Nat) (pen : List D) (fl r : List (List Int)) (x4 : Option W), rest = r.map intsT ∧ ρ = [some (.own pen), some (.val (.int a)), some (.val (.tup (w.map pairT))), some (.val (intsT rd)), x4, x5, x6, none, some (.val (.int z)), none, none] ∧ PenOk k pen ∧ k + r.length ≤ K + 70 ∧ acc = fl.map intsT ∧ (fl ++ r).Sublist (tups rd.length) := ⟨_, rfl⟩
      refine wp_comp_inv I ?_ (by rw [hI]; exact ⟨_, pen3, [], tups rd.length, some (.val (.lst ((tups rd.length).map intsT))), rfl, rfl, hp3, by have := tk.2.2; omega, rfl, by simp⟩) ?_
      · intro d r ρ acc h
        rw [hI] at h
        obtain ⟨k, pen, fl, r, x4, e, rfl, hp, hk, rfl, sub⟩ := h
        cases r with
        | nil => simp at e
        | cons v r =>
          simp at e
          obtain ⟨rfl, rfl⟩ := e
          have sl := sub.length_le
          simp at sl hk
          refine ⟨by have := tk.2.2; simp [big]; omega, ?_⟩
          simp
          refine Wp.of (run_draw hp (by omega) (by omega) (by omega)) ?_
          rintro _ _ ⟨u, pen2, rfl, rfl, u0, u1, hp2⟩
          by_cases hu : u < z
          · simp [hu]
            rw [hI]
            exact ⟨k + 1, pen2, fl ++ [v], r, x4, rfl, rfl, hp2, by omega, by simp, by simpa using sub⟩
          · simp [hu]
            rw [hI]
            exact ⟨k + 1, pen2, fl, r, x4, rfl, rfl, hp2, by omega, rfl, List.Sublist.trans (by simp) sub⟩
      intro acc ρ h
      rw [hI] at h
      obtain ⟨k, pen, fl, r, x4, e, rfl, hp, hk, rfl, sub⟩ := h
      have : r = [] := by simpa using e.symm
      subst this
      rw [List.append_nil] at sub
      simp
      exact ⟨⟨w, rd, fl⟩, ⟨rfl, rfl, rfl⟩, fin fl sub, hp.mono (by omega)⟩
end DT

end
section
/-! Plain law, third family: a drawn suite, its text. -/
namespace DT
open PySem L2
variable {s : List Int} {ts : List TT}
theorem run_suite {K : Nat} {pen : List D} (hp : PenOk K pen) (hK : K ≤ 700000) {most : Nat} (hm : most ≤ 6) :
    Wp (F__law_suite.run [.lst pen, .int most]) fun w outs => ∃ s ts pen', w = .val (.tup [intsT s, .lst (ts.map TT.d)]) ∧ outs = [pen'] ∧ SOk s ts ∧ ts.length ≤ most ∧ PenOk (K + 1000) pen' := by
  rw [fr__law_suite]; unfold B__law_suite
  simp
  refine Wp.of (run_choose (l := [D.int 1, .int 2, .int 2, .int 3, .int 3, .int 3, .int 4, .int 5]) hp (by omega) (by simp) (by simp)) ?_
  rintro _ _ ⟨d, pen1, rfl, rfl, dm, hp1⟩
  obtain ⟨n, rfl, n1, n5⟩ : ∃ n : Nat, d = .int n ∧ 1 ≤ n ∧ n ≤ 5 := by
    simp at dm
    rcases dm with rfl | rfl | rfl | rfl | rfl
    · exact ⟨1, rfl, by decide, by decide⟩
    · exact ⟨2, rfl, by decide, by decide⟩
    · exact ⟨3, rfl, by decide, by decide⟩
    · exact ⟨4, rfl, by decide, by decide⟩
    · exact ⟨5, rfl, by decide, by decide⟩
  have i1 : (n : Int) ≤ 1000000 := by omega
  have i0 : (-1000000 : Int) ≤ n := by omega
  simp [i1, i0]
  obtain ⟨I, hI⟩ : ∃ I : List D → Ro → List D → Prop, I = fun rest ρ acc => ∃ (k lo : Nat) (pen : List D) (s : List Int), rest = rangeD lo n ∧ ρ = [some (.own pen), some (.val (.int most)), some (.val (.int n)), none, none, none, none, none] ∧ PenOk k pen ∧ k ≤ K + 1 + lo ∧ lo ≤ n ∧ acc = s.map D.int ∧ (∀ i ∈ s, 0 ≤ i ∧ i ≤ 2) ∧ s.length = lo := ⟨_, rfl⟩
  refine wp_comp_inv I ?_ (by rw [hI]; exact ⟨_, 0, pen1, [], by simp, rfl, hp1, by omega, by omega, rfl, by simp, by simp⟩) ?_
  · intro d r ρ acc h
    rw [hI] at h
    obtain ⟨k, lo, pen, s, e, rfl, hp, hk, hlo, rfl, s1, s2⟩ := h
    obtain ⟨e1, rfl, rfl⟩ := rangeD_cons e
    refine ⟨by simp [big]; omega, ?_⟩
    simp
    refine Wp.of (run_draw hp (by omega) (by omega) (by omega)) ?_
    rintro _ _ ⟨v, pen1, rfl, rfl, v0, v1, hp1⟩
    simp
    rw [hI]
    refine ⟨k + 1, lo + 1, pen1, s ++ [v], by simp, rfl, hp1, by omega, by omega, by simp, fun i hi => ?_, by simp [s2]⟩
    rcases List.mem_append.mp hi with hi | hi
    · exact s1 i hi
    · rw [List.mem_singleton.mp hi]; omega
  intro acc ρ h
  rw [hI] at h
  obtain ⟨k, lo, pen, s, e, rfl, hp, hk, hlo, rfl, s1, s2⟩ := h
  have := rangeD_nil e
  have : n = lo := by omega
  subst this
  clear hI I
  simp
  refine Wp.of (run_draw hp (by omega) (by omega) (by omega)) ?_
  rintro _ _ ⟨u, pen2, rfl, rfl, u0, u1, hp2⟩
  obtain ⟨m, rfl⟩ : ∃ m : Nat, u = m := ⟨u.toNat, by omega⟩
  have j1 : (m : Int) ≤ 1000000 := by omega
  have j0 : (-1000000 : Int) ≤ m := by omega
  simp [j1, j0]
  obtain ⟨I, hI⟩ : ∃ I : List D → Ro → Prop, I = fun rest ρ => ∃ (k lo : Nat) (pen : List D) (ts : List TT) (x5 x6 : Option W), rest = rangeD lo m ∧ ρ = [some (.own pen), some (.val (.int most)), some (.val (.int n)), some (.val (intsT s)), some (.own (ts.map TT.d)), x5, x6, none] ∧ PenOk k pen ∧ k ≤ K + 10 + 120 * lo ∧ lo ≤ m ∧ (∀ t ∈ ts, TOk n t) ∧ ts.length = lo := ⟨_, rfl⟩
  refine wp_for I ?_ (by rw [hI]; exact ⟨_, 0, pen2, [], none, none, by simp, rfl, hp2, by omega, by omega, by simp, by simp⟩) ?_
  · intro d r ρ h
    rw [hI] at h
    obtain ⟨k, lo, pen, ts, x5, x6, e, rfl, hp, hk, hlo, t1, t2⟩ := h
    obtain ⟨e1, rfl, rfl⟩ := rangeD_cons e
    have tb : ts.length < big := by unfold big; omega
    have app : ∀ (k' : Nat) (pen' : List D) (t : TT) (x5 x6 : Option W), PenOk k' pen' → k' ≤ K + 10 + 120 * (lo + 1) → TOk n t → I (rangeD ((lo : Int) + 1) m) [some (.own pen'), some (.val (.int most)), some (.val (.int n)), some (.val (intsT s)), some (.own (ts.map TT.d ++ [t.d])), x5, x6, none] := fun k' pen' t x5 x6 hp' hk' ht => by
      rw [hI]
      refine ⟨k', lo + 1, pen', ts ++ [t], x5, x6, by simp, by simp, hp', hk', by omega, fun x hx => ?_, by simp [t2]⟩
      rcases List.mem_append.mp hx with hx | hx
      · exact t1 x hx
      · rw [List.mem_singleton.mp hx]; exact ht
    by_cases h0 : ts = []
    · have q := eqD_ts ts
      simp only [h0] at q
      simp at q
      simp [h0, q]
      refine Wp.of (run_test n1 n5 hp (by omega)) ?_
      rintro _ _ ⟨t, pen3, rfl, rfl, ht, hp3⟩
      simp
      subst h0
      exact app _ _ t _ _ hp3 (by omega) ht
    · have q := eqD_ts ts
      simp [h0] at q
      simp [q]
      refine Wp.of (run_draw hp (by omega) (by omega) (by omega)) ?_
      rintro _ _ ⟨v, pen1, rfl, rfl, v0, v1, hp1⟩
      by_cases hv : v = 0
      · simp [hv]
        refine Wp.of (run_choose (l := ts.map TT.d) hp1 (by omega) (by simpa using h0) (by simp; omega)) ?_
        rintro _ _ ⟨d, pen3, rfl, rfl, dm, hp3⟩
        obtain ⟨t, htm, rfl⟩ := List.mem_map.mp dm
        simp [tb]
        exact app _ _ _ _ _ hp3 (by omega) (t1 _ htm)
      · simp [hv]
        refine Wp.of (run_test n1 n5 hp1 (by omega)) ?_
        rintro _ _ ⟨t, pen3, rfl, rfl, ht, hp3⟩
        simp [tb]
        exact app _ _ t _ _ hp3 (by omega) ht
  intro ρ h
  rw [hI] at h
  obtain ⟨k, lo, pen, ts, x5, x6, e, rfl, hp, hk, hlo, t1, t2⟩ := h
  have := rangeD_nil e
  have : m = lo := by omega
  subst this
  clear hI I
  simp
  exact ⟨s, ts, ⟨rfl, rfl⟩, ⟨s1, by omega, by omega, fun t ht => by rw [s2]; exact t1 t ht, by omega⟩, by omega, hp.mono (by omega)⟩
def dash (p : List Nat) : List Nat := if p = [] then [45] else p
theorem dash_join {ws : List (List Nat)} (h : ∀ w ∈ ws, w ≠ []) : dash (TL.joinL [32] ws) = joinSp ws := by
  cases ws with
  | nil => rfl
  | cons w ws =>
    have hw := h w (List.mem_cons_self ..)
    have e : TL.joinL [32] (w :: ws) ≠ [] := by
      cases ws with
      | nil => simpa [TL.joinL] using hw
      | cons v ws =>
        unfold TL.joinL
        simp [hw]
    unfold dash joinSp
    rw [if_neg e, if_neg (by simp)]
theorem dash_third {n : Nat} {t : TT} (ht : TOk n t) (hf : t.fl ≠ [[]]) : dash (TL.joinL [32] (t.fl.map fWord)) = joinSp (t.fl.map fWord) := by
  by_cases h0 : t.rd.length = 0
  · have z : ∀ v ∈ t.fl, v = [] := fun v hv => List.eq_nil_of_length_eq_zero (by rw [(ht.f1 v hv).2, h0])
    have : t.fl = [] := by
      cases e : t.fl with
      | nil => rfl
      | cons v r =>
        exfalso
        rw [e] at z hf
        have hv := z v (List.mem_cons_self ..)
        subst hv
        cases r with
        | nil => exact hf rfl
        | cons u r =>
          have hu := z u (by simp)
          subst hu
          have := ht.f2
          rw [e] at this
          have z0 : HT.lexLt ([] : List Int) [] = false := by simp [HT.lexLt]
          simp [z0] at this
    rw [this]
    rfl
  · refine dash_join fun w hw => ?_
    obtain ⟨v, hv, rfl⟩ := List.mem_map.mp hw
    intro e
    have := congrArg List.length e
    rw [fWord_len, (ht.f1 v hv).2] at this
    exact h0 this
theorem run_law_text (h : SOk s ts) : F__law_text.run [intsT s, .lst (ts.map TT.d)] = some (.val (.str (SX.S (textC s ts))), []) := by
  refine Wp.eq ?_
  have h3 := h.s3
  have h2 := h.s2
  have t2 := h.t2
  rw [fr__law_text]; unfold B__law_text
  simp
  refine wp_map (l := s) D.int (fun i => .str (SX.S (dig i))) (fun i hi => ?_) (by unfold big; omega) ?_
  · have q1 := h.s1 i hi
    have a1 : i.natAbs < 1000000 := by omega
    simp [intText_dig q1.1 (by omega), a1]
  have e1 : (s.map fun a => (SX.S (dig a)).length).sum + s.length ≤ big := by
    have := sum_le (fun a => (SX.S (dig a)).length) (k := 1) (ws := s) (fun i _ => by simp [SX.S_len])
    unfold big; omega
  have hl := h.h_len
  unfold headC at hl
  simp [SX.S_len] at hl
  have ia : 6 + (TL.joinL [32] (s.map dig)).length ≤ big := by unfold big; omega
  have ib : (TL.joinL [32] (s.map dig)).length + 6 ≤ big := by unfold big; omega
  simp [Function.comp_def, SX.S_len] at e1
  simp [join_1, Function.comp_def, SX.S_len, SX.S_cat, ia, ib, e1]
  obtain ⟨I, hI⟩ : ∃ I : List D → Ro → Prop, I = fun rest ρ => ∃ (rest' done : List TT) (x3 x4 x5 x6 x7 x8 : Option W), rest = rest'.map TT.d ∧ ρ = [some (.val (intsT s)), some (.val (.lst (ts.map TT.d))), some (.own ((headC s :: done.map lineC).map fun l => D.str (SX.S l))), x3, x4, x5, x6, x7, x8, none, none, none, none, none] ∧ done ++ rest' = ts := ⟨_, rfl⟩
  refine wp_for I ?_ (by rw [hI]; exact ⟨ts, [], none, none, none, none, none, none, rfl, by simp [headC], by simp⟩) ?_
  · intro d rest ρ h0
    rw [hI] at h0
    obtain ⟨rest', done, x3, x4, x5, x6, x7, x8, e, rfl, hd⟩ := h0
    cases rest' with
    | nil => simp at e
    | cons t rest' =>
      simp only [List.map_cons, List.cons.injEq] at e
      obtain ⟨rfl, rfl⟩ := e
      have ht : TOk s.length t := h.t1 t (by rw [← hd]; simp)
      simp
      refine wp_map (l := t.w) pairT (fun p => .str (SX.S (wWord p))) (fun p hp => ?_) (by have := ht.w3; unfold big; omega) ?_
      · have q := ht.w1 p hp
        have a1 : p.1.natAbs < 1000000 := by omega
        have a2 : p.2.natAbs < 1000000 := by omega
        simp [intText_dig q.1 (by omega), intText_dig q.2.2.1 (by omega), a1, a2, SX.S_cat, SX.S_len, wWord]
      have b1 : (t.w.map fun a => (SX.S (wWord a)).length).sum + t.w.length ≤ big := by
        have := sum_le (fun a => (SX.S (wWord a)).length) (k := 3) (ws := t.w) (fun i _ => by simp [SX.S_len, wWord])
        have := ht.w3
        unfold big; omega
      simp [Function.comp_def, SX.S_len] at b1
      simp [join_1, Function.comp_def, SX.S_len, b1]
      refine wp_map (l := t.rd) D.int (fun i => .str (SX.S (dig i))) (fun i hi => ?_) (by have := ht.r3; unfold big; omega) ?_
      · have q1 := ht.r1 i hi
        have a1 : i.natAbs < 1000000 := by omega
        simp [intText_dig q1.1 (by omega), a1]
      have b2 : (t.rd.map fun a => (SX.S (dig a)).length).sum + t.rd.length ≤ big := by
        have := sum_le (fun a => (SX.S (dig a)).length) (k := 1) (ws := t.rd) (fun i _ => by simp [SX.S_len])
        have := ht.r3
        unfold big; omega
      simp [Function.comp_def, SX.S_len] at b2
      simp [join_1, Function.comp_def, SX.S_len, b2]
      refine wp_map (l := t.fl) intsT (fun v => .str (SX.S (fWord v))) (fun v hv => ?_) (by have := ht.f3; unfold big; omega) ?_
      · have q := ht.f1 v hv
        have q3 := ht.r3
        simp
        refine wp_map (l := v) D.int (fun i => .str (SX.S (dig i))) (fun i hi => ?_) (by unfold big; omega) ?_
        · have q1 := q.1 i hi
          have a1 : i.natAbs < 1000000 := by omega
          simp [intText_dig q1.1 (by omega), a1]
        · have e : (v.map fun a => (SX.S (dig a)).length).sum ≤ big := by
            have := sum_le (fun a => (SX.S (dig a)).length) (k := 1) (ws := v) (fun i _ => by simp [SX.S_len])
            unfold big; omega
          simp [join_1, joinL_nil, fWord, SX.S_len] at e ⊢
          simp [Function.comp_def, SX.S_len] at e ⊢
          exact e
      have b3 : (t.fl.map fun a => (SX.S (fWord a)).length).sum + t.fl.length ≤ big := by
        have := sum_le (fun a => (SX.S (fWord a)).length) (k := 3) (ws := t.fl) (fun v hv => by rw [SX.S_len, fWord_len, (ht.f1 v hv).2]; exact ht.r3)
        have := ht.f3
        unfold big; omega
      simp [Function.comp_def, SX.S_len] at b3
      simp [join_1, Function.comp_def, SX.S_len, b3]
      have ee := eqD_any t.fl
      have w1 := ht.w_len
      have w2 := ht.r_len
      have w4 := ht.t_len
      have e1 := dash_join (ws := t.w.map wWord) (fun w hw => by obtain ⟨p, _, rfl⟩ := List.mem_map.mp hw; simp [wWord])
      have e2 := dash_join (ws := t.rd.map dig) (fun w hw => by obtain ⟨p, _, rfl⟩ := List.mem_map.mp hw; simp)
      have smj : ∀ ws : List (List Nat), (∀ w ∈ ws, sm w) → sm (TL.joinL [32] ws) := fun ws h c hc => by
        rcases mem_joinL hc with hc | ⟨w, hw, hc⟩
        · have : c = 32 := by simpa using hc
          omega
        · exact h w hw c hc
      have s1 := smj (t.w.map wWord) fun w hw c hc => dgs (ht.ws h3 w hw c hc)
      have s2 := smj (t.rd.map dig) fun w hw c hc => dgs (.inl (ht.rs h3 w hw c hc))
      have s3 := smj (t.fl.map fWord) fun w hw c hc => dgs (.inl (ht.fs w hw c hc))
      have dl : done.length + 1 < big := by
        have := congrArg List.length hd
        simp at this
        unfold big; omega
      have app : ∀ (y3 y4 y5 y6 y7 y8 : Option W), I (rest'.map TT.d) [some (.val (intsT s)), some (.val (.lst (ts.map TT.d))), some (.own ((headC s :: (done ++ [t]).map lineC).map fun l => D.str (SX.S l))), y3, y4, y5, y6, y7, y8, none, none, none, none, none] := fun y3 y4 y5 y6 y7 y8 => by
        rw [hI]
        exact ⟨rest', done ++ [t], y3, y4, y5, y6, y7, y8, rfl, rfl, by simpa using hd⟩
      generalize TL.joinL [32] (t.w.map wWord) = A at *
      generalize TL.joinL [32] (t.rd.map dig) = B at *
      have e3 := dash_third ht
      generalize TL.joinL [32] (t.fl.map fWord) = C at *
      by_cases hf : t.fl = [[]]
      · have et : dash [97, 110, 121] = third t.fl := (if_pos hf).symm
        rw [decide_eq_true hf] at ee
        simp [ee]
        refine wp_map (l := [A, B, [97, 110, 121]]) (fun p => D.str (SX.S p)) (fun p => .str (SX.S (dash p))) (fun p hp => ?_) (by simp [big]) ?_
        · have sp : sm p := by
            simp at hp
            rcases hp with rfl | rfl | rfl
            · exact s1
            · exact s2
            · exact (by decide)
          have e := eqD_S sp (b := []) (by decide)
          by_cases h0 : p = []
          · subst h0
            simp at e
            simp [e, dash]
          · simp [h0] at e
            simp [e, dash, h0]
        have j : Txt.join (SX.S [32, 124, 32]) [SX.S (joinSp (t.w.map wWord)), SX.S (joinSp (t.rd.map dig)), SX.S (third t.fl)] = SX.S (lineC t) := by
          have := SX.join_S [32, 124, 32] [joinSp (t.w.map wWord), joinSp (t.rd.map dig), third t.fl]
          simpa [TL.joinL, lineC] using this
        simp [e1, e2, et, strsD, j, SX.S_len, dl]
        refine ⟨by unfold big; omega, ?_⟩
        have z := app (some (.val (.tup (t.w.map pairT)))) (some (.val (intsT t.rd))) (some (.val (.tup (t.fl.map intsT)))) (some (.val (.str (SX.S A)))) (some (.val (.str (SX.S B)))) (some (.val (.str (SX.S [97, 110, 121]))))
        simpa [Function.comp_def] using z
      · have et : dash C = third t.fl := (e3 hf).trans (if_neg hf).symm
        rw [decide_eq_false hf] at ee
        simp [ee]
        refine wp_map (l := [A, B, C]) (fun p => D.str (SX.S p)) (fun p => .str (SX.S (dash p))) (fun p hp => ?_) (by simp [big]) ?_
        · have sp : sm p := by
            simp at hp
            rcases hp with rfl | rfl | rfl
            · exact s1
            · exact s2
            · exact s3
          have e := eqD_S sp (b := []) (by decide)
          by_cases h0 : p = []
          · subst h0
            simp at e
            simp [e, dash]
          · simp [h0] at e
            simp [e, dash, h0]
        have j : Txt.join (SX.S [32, 124, 32]) [SX.S (joinSp (t.w.map wWord)), SX.S (joinSp (t.rd.map dig)), SX.S (third t.fl)] = SX.S (lineC t) := by
          have := SX.join_S [32, 124, 32] [joinSp (t.w.map wWord), joinSp (t.rd.map dig), third t.fl]
          simpa [TL.joinL, lineC] using this
        simp [e1, e2, et, strsD, j, SX.S_len, dl]
        refine ⟨by unfold big; omega, ?_⟩
        have z := app (some (.val (.tup (t.w.map pairT)))) (some (.val (intsT t.rd))) (some (.val (.tup (t.fl.map intsT)))) (some (.val (.str (SX.S A)))) (some (.val (.str (SX.S B)))) (some (.val (.str (SX.S C))))
        simpa [Function.comp_def] using z
  · intro ρ h0
    rw [hI] at h0
    obtain ⟨rest', done, x3, x4, x5, x6, x7, x8, e, rfl, hd⟩ := h0
    have : rest' = [] := by simpa using e.symm
    subst this
    rw [List.append_nil] at hd
    subst hd
    simp
    have el : D.str (SX.S (headC s)) :: done.map ((fun l => D.str (SX.S l)) ∘ lineC) = (linesC s done).map fun l => D.str (SX.S l) := by simp [linesC]
    rw [el]
    refine wp_map (l := linesC s done) (fun l => D.str (SX.S l)) (fun l => .str (SX.S (l ++ [10]))) (fun l hl => ?_) (by rw [linesC_len]; unfold big; omega) ?_
    · have q := h.ls_len l hl
      have i1 : l.length + 1 ≤ big := by unfold big; omega
      simp [SX.S_cat, SX.S_len, i1]
    have sm1 := sum_le (fun l : List Nat => (SX.S (l ++ [10])).length) (k := 144) (ws := linesC s done) (fun l hl => by have := h.ls_len l hl; simp [SX.S_len]; omega)
    rw [linesC_len] at sm1
    have i2 : ((linesC s done).map (fun l : List Nat => (SX.S (l ++ [10])).length)).sum ≤ big := by unfold big; omega
    have jt := join_1 (sep := []) (fun l : List Nat => l ++ [10]) (linesC s done)
    rw [(text_flat s done).2] at jt
    simp [jt]
    simp [Function.comp_def] at i2 ⊢
    exact i2
end DT

end
section
/-! Plain law, third family: verdicts behind rows; the frame. -/
namespace DT
open PySem L2
variable {s : List Int} {ts : List TT}
theorem run_law_passes {n : Nat} {t : TT} (ok : TOk n t) {r : List Int} (hr : r.length = n) : F__law_passes.run [.lst (r.map D.int), t.d] = some (.val (.bl (pass r t)), []) := by
  refine Wp.eq ?_
  rw [fr__law_passes]; unfold B__law_passes
  simp
  refine wp_map (l := t.rd) D.int (fun j => .int ((r[j.toNat]?).getD 0)) (fun j hj => ?_) (by have := ok.r3; unfold big; omega) ?_
  · have q := ok.r1 j hj
    have e := atI_ints (r := r) q.1 (by omega)
    simp [e]
  have e := inD_ints (vals r t.rd) t.fl
  simp only [vals, intsT, List.map_map, Function.comp_def] at e
  simp [e, pass, vals]
/-- the record behind a row, found field by field -/
theorem run_law_behind (h : SOk s ts) {row : List Int} (hr : ROk ts.length row) : F__law_behind.run [intsT s, .lst (ts.map TT.d), intsT row] = some (.own ((bh ts s row).map D.int), []) := by
  refine Wp.eq ?_
  rw [fr__law_behind]; unfold B__law_behind
  simp
  obtain ⟨I, hI⟩ : ∃ I : List D → Ro → Prop, I = fun rest ρ => ∃ (rest' r : List Int) (x4 x5 x6 : Option W), rest = rest'.map D.int ∧ ρ = [some (.val (intsT s)), some (.val (.lst (ts.map TT.d))), some (.val (intsT row)), some (.own (r.map D.int)), x4, x5, x6] ∧ (∀ i ∈ rest', 0 ≤ i ∧ i < ts.length) ∧ r.length = s.length ∧ bh ts r rest' = bh ts s row := ⟨_, rfl⟩
  refine wp_for I ?_ (by rw [hI]; exact ⟨row, s, none, none, none, rfl, rfl, hr.r1, rfl, rfl⟩) ?_
  · intro d rest ρ h0
    rw [hI] at h0
    obtain ⟨rest', r, x4, x5, x6, e, rfl, hi, hl, hb⟩ := h0
    cases rest' with
    | nil => simp at e
    | cons i rest' =>
      simp at e
      obtain ⟨rfl, rfl⟩ := e
      have q := hi i (List.mem_cons_self ..)
      have hj : i.toNat < ts.length := by omega
      have ok := h.t1 _ (List.getElem_mem hj)
      have e1 : atI (ts.map TT.d) i = some (ts[i.toNat]).d := by
        rw [atI_get q.1 (by simpa using q.2)]
        simp [hj]
      simp [e1]
      obtain ⟨J, hJ⟩ : ∃ J : List D → Ro → Prop, J = fun rest ρ => ∃ (w : List (Int × Int)) (r' : List Int) (x5 x6 : Option W), rest = w.map pairT ∧ ρ = [some (.val (intsT s)), some (.val (.lst (ts.map TT.d))), some (.val (intsT row)), some (.own (r'.map D.int)), some (.val (.int i)), x5, x6] ∧ (∀ p ∈ w, 0 ≤ p.1 ∧ p.1 < s.length) ∧ r'.length = s.length ∧ applyW r' w = applyW r (ts[i.toNat]).w := ⟨_, rfl⟩
      refine wp_for J ?_ (by rw [hJ]; exact ⟨_, r, x5, x6, rfl, rfl, fun p hp => ⟨(ok.w1 p hp).1, (ok.w1 p hp).2.1⟩, hl, rfl⟩) ?_
      · intro d rest ρ h0
        rw [hJ] at h0
        obtain ⟨w, r', x5, x6, e, rfl, hw, hl', hb'⟩ := h0
        cases w with
        | nil => simp at e
        | cons p w =>
          simp at e
          obtain ⟨rfl, rfl⟩ := e
          have qp := hw p (List.mem_cons_self ..)
          have ql : p.1.toNat < r'.length := by omega
          simp [qp.1, ql]
          rw [hJ]
          exact ⟨w, r'.set p.1.toNat p.2, some (.val (.int p.1)), some (.val (.int p.2)), rfl, by simp, fun z hz => hw z (List.mem_cons_of_mem _ hz), by simpa using hl', hb'⟩
      · intro ρ h0
        rw [hJ] at h0
        obtain ⟨w, r', x5, x6, e, rfl, hw, hl', hb'⟩ := h0
        have : w = [] := by simpa using e.symm
        subst this
        simp
        rw [hI]
        refine ⟨rest', r', some (.val (.int i)), x5, x6, rfl, rfl, fun z hz => hi z (List.mem_cons_of_mem _ hz), hl', ?_⟩
        rw [← hb]
        have hb' : r' = applyW r (ts[i.toNat]).w := hb'
        show _ = bh ts (applyW r _) rest'
        rw [hb', List.getElem?_eq_getElem hj]
        rfl
  · intro ρ h0
    rw [hI] at h0
    obtain ⟨rest', r, x4, x5, x6, e, rfl, hi, hl, hb⟩ := h0
    have : rest' = [] := by simpa using e.symm
    subst this
    simp
    exact congrArg _ hb
theorem run_law_verdict (h : SOk s ts) {i : Int} (h0 : 0 ≤ i) (h1 : i < ts.length) {r : List Int} (hr : ROk ts.length r) : F__law_verdict.run [intsT s, .lst (ts.map TT.d), .int i, intsT r] = some (.val (.bl (pass (bh ts s r) (tst ts i))), []) := by
  refine Wp.eq ?_
  rw [fr__law_verdict]; unfold B__law_verdict
  simp
  refine Wp.rw (run_law_behind h hr) ?_
  simp [atI_tst h0 h1]
  refine Wp.rw (run_law_passes (tst_ok h h0 h1) (bh_len _ _ _)) ?_
  simp
theorem run_made (h : SOk s ts) : F__law_made.run [intsT s, .lst (ts.map TT.d)] = some (.val (suD s ts), []) := by
  refine Wp.eq ?_
  rw [fr__law_made]; unfold B__law_made
  simp
  refine Wp.rw (run_law_text h) ?_
  simp
  refine Wp.rw (run_read h) ?_
  simp
theorem run_is_equal {d : D} (h : rp d = true) (hd : dep d ≤ 60) (hw : wt d ≤ 60000) : F__law_is_equal.run [d, d] = some (.val (.bl true), []) := by
  refine Wp.eq ?_
  obtain ⟨x, hx, ok⟩ := shown_ok h hd hw
  rw [fr__law_is_equal]; unfold B__law_is_equal
  simp [hx, eqD_texts ok]
theorem frameC {Γ : Nat → Option Fn} {gl : Str → Option D} (g0 : Γ 0 = some F__law_source) (g1 : Γ 1 = some F__law_cell) (k : Nat) (M L : Int) (hM : 1 ≤ M ∧ M ≤ 10) (hL : 0 ≤ L ∧ L ≤ 20) (body : List S) (T : Ro → Prop) (h0 : T (List.replicate k none)) (ns : List Int)
    (hb : ∀ (K : Nat) (pen : List D) (x1 : Option W) (lap : Nat) (xs : Ro), PenOk K pen → K ≤ 400000 → (lap : Int) < L → T xs → Wp (evSs Γ gl body (some (.bor (ns.map D.int)) :: x1 :: some (.own pen) :: some (.val (.int lap)) :: xs)) fun o ρ' => o = .nx ∧ ∃ pen' xs', ρ' = some (.bor (ns.map D.int)) :: x1 :: some (.own pen') :: some (.val (.int lap)) :: xs' ∧ T xs' ∧ PenOk (K + 10000) pen') :
    runFn Γ gl [.bor] (k + 4) [.for_ (.name 1) (.rng1 (.bi .max2 [(.cst (.int 1)), (.bi .min2 [(.bi .len [(.var 0)]), (.cst (.int M))])])) [.asg (.name 2) (.call 0 [(.call 1 [(.var 0), (.var 1)])]),
    .for_ (.name 3) (.rng1 (.cst (.int L))) body],
    .ret (.cst (.bl true))] [.lst (ns.map D.int)] = some (.val (.bl true), []) := by
  refine Wp.eq ?_
  have er : List.replicate (k + 4 - [Mode.bor].length) (none : Option W) = none :: none :: none :: List.replicate k none := by
    rw [show k + 4 - [Mode.bor].length = k + 1 + 1 + 1 by simp]
    rw [List.replicate_succ, List.replicate_succ, List.replicate_succ]
  simp only [w_run, args0_bor, args0_nil, Option.map_some, wq_some, a_kRun]
  rw [er]
  obtain ⟨N, hN⟩ : ∃ N, (if 1 < (if M < (ns.length : Int) then M else ns.length) then (if M < (ns.length : Int) then M else ns.length) else 1) = N := ⟨_, rfl⟩
  have n1 : 1 ≤ N := by
    rw [← hN]; split <;> omega
  have n3 : N ≤ 10 := by
    rw [← hN]; repeat split <;> omega
  have i1 : N ≤ 1000000 := by omega
  have i0 : (-1000000 : Int) ≤ N := by omega
  simp [hN, i1, i0]
  obtain ⟨I, hI⟩ : ∃ I : List D → Ro → Prop, I = fun rest ρ => ∃ (lo : Int) (x1 x2 x3 : Option W) (xs : Ro), rest = rangeD lo N ∧ 0 ≤ lo ∧ ρ = some (.bor (ns.map D.int)) :: x1 :: x2 :: x3 :: xs ∧ T xs := ⟨_, rfl⟩
  refine wp_for I ?_ (by rw [hI]; exact ⟨0, none, none, none, _, rfl, by omega, rfl, h0⟩) ?_
  · intro d rest ρ h0
    rw [hI] at h0
    obtain ⟨lo, x1, x2, x3, xs, e, h0, rfl, hT⟩ := h0
    obtain ⟨e1, rfl, rfl⟩ := rangeD_cons e
    simp [g0, g1]
    refine Wp.of (run_cell_at ns h0) ?_
    rintro _ _ ⟨rfl, i, rfl⟩
    simp [g0]
    refine Wp.of (run_pen i) ?_
    rintro _ _ ⟨rfl, pen, rfl, hp⟩
    have l1 : L ≤ 1000000 := by omega
    have l0 : (-1000000 : Int) ≤ L := by omega
    simp [l1, l0]
    obtain ⟨J, hJ⟩ : ∃ J : List D → Ro → Prop, J = fun rest ρ => ∃ (k' lo' : Nat) (pen : List D) (x3 : Option W) (xs : Ro), rest = rangeD lo' L ∧ ρ = some (.bor (ns.map D.int)) :: some (.val (.int lo)) :: some (.own pen) :: x3 :: xs ∧ T xs ∧ PenOk k' pen ∧ k' ≤ 10000 * lo' ∧ (lo' : Int) ≤ L := ⟨_, rfl⟩
    refine wp_for J ?_ (by rw [hJ]; exact ⟨0, 0, pen, x3, xs, by simp, rfl, hT, hp, by omega, by omega⟩) ?_
    · intro d rest ρ h1
      rw [hJ] at h1
      obtain ⟨k', lo', pen, x3, xs, e, rfl, hT, hp, hk, hl⟩ := h1
      obtain ⟨e2, rfl, rfl⟩ := rangeD_cons e
      simp
      refine Wp.of (hb k' pen _ _ _ hp (by omega) (by omega) hT) ?_
      rintro _ _ ⟨rfl, pen', xs', rfl, hT', hp'⟩
      refine ⟨rfl, ?_⟩
      rw [hJ]
      exact ⟨k' + 10000, lo' + 1, pen', _, xs', by simp, rfl, hT', hp', by omega, by omega⟩
    · intro ρ h1
      rw [hJ] at h1
      obtain ⟨k', lo', pen, x3, xs, e, rfl, hT, hp, hk, hl⟩ := h1
      simp
      rw [hI]
      exact ⟨lo + 1, _, _, _, xs, rfl, by omega, rfl, hT⟩
  · intro ρ h0
    rw [hI] at h0
    obtain ⟨lo, x1, x2, x3, xs, e, h0, rfl, hT⟩ := h0
    simp
end DT

end
section
/-! Plain law: the forms' tables and bodies, for simp (printed by gen_pl.py). -/
namespace DT
open PySem L2
@[scoped simp] theorem fm__law_rows : F__law_rows.modes = [.val] := rfl
theorem fr__law_rows (ds : List D) : F__law_rows.run ds = ((runFn (fun f => ([] : List Fn)[f]?) gl__law_rows [.val] 7 B__law_rows)) ds := rfl
@[scoped simp] theorem fm__law_others : F__law_others.modes = [.val, .val] := rfl
theorem fr__law_others (ds : List D) : F__law_others.run ds = ((runFn (fun f => ([] : List Fn)[f]?) gl__law_others [.val, .val] 3 B__law_others)) ds := rfl
@[scoped simp] theorem fm__law_blamed : F__law_blamed.modes = [.val, .val, .val, .val] := rfl
theorem fr__law_blamed (ds : List D) : F__law_blamed.run ds = ((runFn (fun f => ([F__law_verdict] : List Fn)[f]?) gl__law_blamed [.val, .val, .val, .val] 9 B__law_blamed)) ds := rfl
@[scoped simp] theorem fm_law : F_law.modes = [.bor] := rfl
theorem fr_law (ds : List D) : F_law.run ds = ((runFn (fun f => ([F__law_source, F__law_cell, F__law_suite, F__law_made, F__law_rows, F__law_others, F__law_draw, F__law_blamed, F__law_is_equal, F_blamed] : List Fn)[f]?) gl_law [.bor] 12 B_law)) ds := rfl
end DT

end
section
/-! Plain law of k63: what is to blame. -/
namespace DT
open PySem L2
variable {s : List Int} {ts : List TT}
/-! ### the parts of a row -/
def partsS (f : List (List Int)) (x : Int) : List (List Int) := f ++ f.map (· ++ [x])
def partsF (row : List Int) : List (List Int) := row.foldl partsS [[]]
theorem partsS_sub {f : List (List Int)} {pre : List Int} {x : Int} (h : ∀ v ∈ f, v.Sublist pre) : ∀ v ∈ partsS f x, v.Sublist (pre ++ [x]) := fun v hv => by
  rcases List.mem_append.mp hv with hv | hv
  · exact (h v hv).trans (List.sublist_append_left ..)
  · obtain ⟨u, hu, rfl⟩ := List.mem_map.mp hv
    exact (h u hu).append (List.Sublist.refl _)
theorem parts_from : ∀ (row pre : List Int) (f : List (List Int)), (∀ v ∈ f, v.Sublist pre) → pre ∈ f → (∀ v ∈ row.foldl partsS f, v.Sublist (pre ++ row)) ∧ pre ++ row ∈ row.foldl partsS f
  | [], pre, f, h, hp => ⟨fun v hv => by simpa using h v hv, by simpa using hp⟩
  | x :: row, pre, f, h, hp => by
    have q := parts_from row (pre ++ [x]) (partsS f x) (partsS_sub h) (List.mem_append_right _ (List.mem_map_of_mem (f := (· ++ [x])) hp))
    simpa using q
theorem parts_sub {row v : List Int} (h : v ∈ partsF row) : v.Sublist row := by
  have := (parts_from row [] [[]] (by simp) (by simp)).1 v h
  rw [List.nil_append] at this
  exact this
theorem parts_self (row : List Int) : row ∈ partsF row := by
  have := (parts_from row [] [[]] (by simp) (by simp)).2
  rw [List.nil_append] at this
  exact this
/-! ### the best one -/
def lp (v : List Int) : Int × List Int := ((v.length : Int), v)
def lpD (v : List Int) : D := .tup [.int v.length, intsT v]
theorem pairsI_map (l : List (List Int)) : pairsI (l.map lpD) = some (l.map lp) := by
  induction l with
  | nil => rfl
  | cons v l ih =>
    rw [List.map_cons]
    unfold pairsI
    rw [ih]
    show bnd1 (bnd1 (intsD (v.map D.int)) _) _ = _
    rw [intsD_map]
    rfl
theorem argB_le (bt : Nat → Nat → Bool) : ∀ k, argB bt k ≤ k
  | 0 => Nat.le_refl _
  | k + 1 => by
    have := argB_le bt k
    unfold argB
    split <;> omega
def best (l : List (List Int)) : List Int := (l[argB (ltAt (l.map lp)) (l.length - 1)]?).getD []
theorem min_pairs {l : List (List Int)} (h : l ≠ []) : biRun .min [.lst (l.map lpD)] = some (.val (lpD (best l))) ∧ best l ∈ l := by
  have hl : 0 < l.length := List.length_pos_iff.mpr h
  have hk := argB_le (ltAt (l.map lp)) (l.length - 1)
  have hk' : argB (ltAt (l.map lp)) (l.length - 1) < l.length := by omega
  have e : best l = l[argB (ltAt (l.map lp)) (l.length - 1)] := by
    unfold best
    rw [List.getElem?_eq_getElem hk']
    rfl
  refine ⟨?_, by rw [e]; exact List.getElem_mem _⟩
  show bnd1 (pairsI (l.map lpD)) _ = _
  rw [pairsI_map]
  show bnd1 ((l.map lpD)[argB (ltAt (l.map lp)) ((l.map lp).length - 1)]?) _ = _
  rw [List.length_map, List.getElem?_map, List.getElem?_eq_getElem hk', e]
  rfl
/-- the verdict behind a row -/
def ver (s : List Int) (ts : List TT) (i : Int) (r : List Int) : Bool := pass (bh ts s r) (tst ts i)
def some_ (s : List Int) (ts : List TT) (i : Int) (row : List Int) : List (List Int) := (partsF row).filter fun v => ver s ts i v != ver s ts i []
def due (s : List Int) (ts : List TT) (i : Int) (row : List Int) : D := if ver s ts i row = ver s ts i [] then .non else intsT (best (some_ s ts i row))
theorem some_ne {i : Int} {row : List Int} (h : ver s ts i row ≠ ver s ts i []) : some_ s ts i row ≠ [] := fun e => by
  have : row ∈ some_ s ts i row := List.mem_filter.mpr ⟨parts_self row, by simpa using h⟩
  rw [e] at this
  simp at this
theorem foldl_len : ∀ (row : List Int) (f : List (List Int)), (row.foldl partsS f).length = f.length * 2 ^ row.length
  | [], f => by simp
  | x :: row, f => by
    rw [List.foldl_cons, foldl_len row, List.length_cons, Nat.pow_succ]
    unfold partsS
    rw [List.length_append, List.length_map, Nat.mul_comm (2 ^ row.length) 2, ← Nat.mul_assoc, Nat.mul_two]
theorem parts_len {row : List Int} (h : row.length ≤ 6) : (partsF row).length ≤ 64 := by
  unfold partsF
  rw [foldl_len]
  have := Nat.pow_le_pow_right (n := 2) (by decide) h
  simpa using this
theorem fm_eq {f : List Int → Bool} (l : List (List Int)) : l.filterMap (fun v => if f v = true then some (intsT v) else none) = (l.filter f).map intsT := by
  induction l with
  | nil => rfl
  | cons v l ih => by_cases q : f v = true <;> simp [q, ih]
theorem fm_eq2 {f : List Int → Bool} (l : List (List Int)) : l.filterMap (fun v => if f v = true then some (lpD v) else none) = (l.filter f).map lpD := by
  induction l with
  | nil => rfl
  | cons v l ih => by_cases q : f v = true <;> simp [q, ih]
/-! ### the program -/
theorem run_parts_of {row : List Int} (h : row.length ≤ 6) : Wp (F_parts_of.run [intsT row]) fun w outs => outs = [] ∧ (w = .own ((partsF row).map intsT) ∨ w = .val (.lst ((partsF row).map intsT))) := by
  rw [fr_parts_of]; unfold B_parts_of
  simp
  obtain ⟨I, hI⟩ : ∃ I : List D → Ro → Prop, I = fun rest ρ => ∃ (r : List Int) (f : List (List Int)) (x2 : Option W), rest = r.map D.int ∧ ρ = [some (.val (intsT row)), some (.own (f.map intsT)), x2, none] ∧ f.length * 2 ^ r.length ≤ 64 ∧ r.foldl partsS f = partsF row ∧ ∀ v ∈ f, v.length + r.length ≤ 6 := ⟨_, rfl⟩
  refine wp_for I ?_ (by rw [hI]; exact ⟨row, [[]], none, rfl, rfl, by have := Nat.pow_le_pow_right (n := 2) (by decide) h; simpa using this, rfl, by simpa using h⟩) ?_
  · intro d rest ρ h0
    rw [hI] at h0
    obtain ⟨r, f, x2, e, rfl, hf, hr, hv⟩ := h0
    cases r with
    | nil => simp at e
    | cons x r =>
      simp only [List.map_cons, List.cons.injEq] at e
      obtain ⟨rfl, rfl⟩ := e
      have hp : 1 ≤ 2 ^ r.length := Nat.one_le_two_pow
      have hf2 : 2 * f.length * 2 ^ r.length ≤ 64 := by
        rw [List.length_cons, Nat.pow_succ] at hf
        rw [Nat.mul_comm 2, Nat.mul_assoc, Nat.mul_comm 2]
        exact hf
      have hf3 : 2 * f.length ≤ 64 := Nat.le_trans (Nat.le_mul_of_pos_right _ hp) hf2
      simp
      refine wp_map (l := f) intsT (fun v => intsT (v ++ [x])) (fun v hv' => ?_) (by unfold big; omega) ?_
      · have := hv v hv'
        have i1 : v.length + 1 ≤ big := by unfold big; omega
        simp
        refine Wp.rw (toVals_star D.int _ (r := [.int x]) rfl v) ?_
        simp [i1]
      have i2 : f.length + f.length ≤ big := by unfold big; omega
      simp [i2]
      rw [hI]
      refine ⟨r, partsS f x, some (.val (.int x)), rfl, by simp [partsS], by unfold partsS; rw [List.length_append, List.length_map, ← Nat.two_mul]; exact hf2, hr, fun v hv' => ?_⟩
      rcases List.mem_append.mp hv' with hv' | hv'
      · have := hv v hv'
        rw [List.length_cons] at this
        omega
      · obtain ⟨u, hu, rfl⟩ := List.mem_map.mp hv'
        have := hv u hu
        simp at this ⊢
        omega
  · intro ρ h0
    rw [hI] at h0
    obtain ⟨r, f, x2, e, rfl, hf, hr, hv⟩ := h0
    have : r = [] := by simpa using e.symm
    subst this
    simp at hr
    simp [hr]
theorem run_blamed (h : SOk s ts) {i : Int} (h0 : 0 ≤ i) (h1 : i < ts.length) {row : List Int} (hr : ROk ts.length row) (hn : i ∉ row) : F_blamed.run [suD s ts, .int i, intsT row] = some (.val (due s ts i row), []) := by
  refine Wp.eq ?_
  rw [fr_blamed]; unfold B_blamed
  simp
  refine Wp.rw (run_need_others h.t2 h0 h1 hr hn) ?_
  simp
  have vo : ∀ {r : List Int}, ROk ts.length r → F_verdict_of.run [suD s ts, .int i, intsT r] = some (.val (.bl (ver s ts i r)), []) := fun hr => run_verdict_of h h0 h1 hr
  have v0 := vo (r := []) ⟨by simp, by simp, by simp⟩
  simp [intsT] at v0
  refine Wp.rw v0 ?_
  simp
  refine Wp.rw (vo hr) ?_
  by_cases hd : ver s ts i row = ver s ts i []
  · have e : due s ts i row = .non := if_pos hd
    simp [hd, e, eqD_bl]
  have e : due s ts i row = intsT (best (some_ s ts i row)) := if_neg hd
  have hb : (ver s ts i row == ver s ts i []) = false := beq_eq_false_iff_ne.mpr hd
  simp [hb, eqD_bl]
  refine Wp.of (run_parts_of hr.r3) ?_
  rintro _ _ ⟨rfl, hw⟩
  have pl := parts_len hr.r3
  have fl := List.length_filter_le (fun v => ver s ts i v != ver s ts i []) (partsF row)
  rcases hw with rfl | rfl
  all_goals
    simp
    refine wp_comp (l := partsF row) intsT (fun v => if (ver s ts i v != ver s ts i []) = true then some (intsT v) else none) (fun v hv => ?_) (by simp; unfold big; omega) ?_
    · simp
      refine Wp.rw (vo (hr.sub (parts_sub hv))) ?_
      by_cases q : ver s ts i v = ver s ts i []
      · simp [q, eqD_bl]
      · have qb : (ver s ts i v == ver s ts i []) = false := beq_eq_false_iff_ne.mpr q
        simp [qb, eqD_bl, bne]
        exact q
    rw [List.nil_append, fm_eq]
    simp
    refine wp_map (l := some_ s ts i row) intsT lpD (fun v hv => ?_) (by unfold some_; unfold big; omega) ?_
    · simp [lpD]
    obtain ⟨m1, m2⟩ := min_pairs (some_ne hd)
    simp [m1, e, lpD]
end DT

end
section
/-! Plain law of k63: the law's own search. -/
namespace DT
open PySem L2
variable {s : List Int} {ts : List TT}
/-! ### the rows of some numbers -/
def rowsS (l : List Int) (last : List (List Int)) : List (List Int) := last.flatMap fun r => (l.filter fun j => j ∉ r).map fun j => r ++ [j]
theorem rowsS_len (l : List Int) (last : List (List Int)) : (rowsS l last).length ≤ last.length * l.length := by
  induction last with
  | nil => simp [rowsS]
  | cons r last ih =>
    have := List.length_filter_le (fun j => decide (j ∉ r)) l
    unfold rowsS at ih ⊢
    rw [List.flatMap_cons, List.length_append, List.length_map, List.length_cons, Nat.succ_mul]
    omega
theorem fm_rows (l r : List Int) : l.filterMap (fun j => if j ∈ r then none else some (intsT (r ++ [j]))) = ((l.filter fun j => j ∉ r).map fun j => r ++ [j]).map intsT := by
  induction l with
  | nil => rfl
  | cons j l ih =>
    by_cases q : j ∈ r
    · simp [q] at ih ⊢
      exact ih
    · simp [q] at ih ⊢
      exact ih
/-- such rows -/
def RowOf (l : List Int) (k : Nat) (r : List Int) : Prop := r.Nodup ∧ (∀ i ∈ r, i ∈ l) ∧ r.length ≤ k
theorem rowsS_ok {l : List Int} {k : Nat} {last : List (List Int)} (h : ∀ r ∈ last, RowOf l k r) : ∀ r ∈ rowsS l last, RowOf l (k + 1) r := fun r hr => by
  obtain ⟨v, hv, hr⟩ := List.mem_flatMap.mp hr
  obtain ⟨j, hj, rfl⟩ := List.mem_map.mp hr
  have hj := List.mem_filter.mp hj
  obtain ⟨a, b, c⟩ := h v hv
  have nj : j ∉ v := by simpa using hj.2
  refine ⟨List.nodup_append.mpr ⟨a, by simp, fun x hx y hy e => ?_⟩, fun i hi => ?_, by simp; exact c⟩
  · rw [List.mem_singleton.mp hy] at e
    subst e
    exact nj hx
  · rcases List.mem_append.mp hi with hi | hi
    · exact b i hi
    · rw [List.mem_singleton.mp hi]; exact hj.1
theorem rows_inner {Γ : Nat → Option Fn} {gl : Str → Option D} {l : List Int} {last : List (List Int)} {y1 y2 y3 x5 : Option W} (hl : l.length ≤ 5) (hb : last.length ≤ 3125) (hr : ∀ r ∈ last, r.length ≤ 5) (Q : Out → Ro → Prop) (q : ∀ x5, Q .nx [some (.val (.lst (l.map D.int))), y1, y2, y3, some (.own ((rowsS l last).map intsT)), x5, none]) :
    Wp (forL (.name 5) (fun ρ => evSs Γ gl [.ext 4 (.comp (.bin .add (.var 5) (.tup [(.var 6)])) (.name 6) (.seq (.var 0)) (.cmp .notin (.var 6) (.var 5)) [6])] ρ) (last.map intsT) [some (.val (.lst (l.map D.int))), y1, y2, y3, some (.own []), x5, none]) Q := by
  refine wp_for (fun rest' ρ => ∃ (r acc : List (List Int)) (x5 : Option W), rest' = r.map intsT ∧ acc ++ rowsS l r = rowsS l last ∧ ρ = [some (.val (.lst (l.map D.int))), y1, y2, y3, some (.own (acc.map intsT)), x5, none] ∧ ∀ v ∈ r, v.length ≤ 5) ?_ ⟨last, [], x5, rfl, rfl, rfl, hr⟩ ?_
  · rintro d rest ρ ⟨r, acc, x5, e, ha, rfl, hv⟩
    cases r with
    | nil => simp at e
    | cons v r =>
      simp only [List.map_cons, List.cons.injEq] at e
      obtain ⟨rfl, rfl⟩ := e
      have q := hv v (List.mem_cons_self ..)
      have i2 : v.length + 1 ≤ big := by unfold big; omega
      simp
      refine wp_comp (l := l) D.int (fun j => if j ∈ v then none else some (intsT (v ++ [j]))) (fun j _ => ?_) (by simp; unfold big; omega) ?_
      · by_cases c : j ∈ v
        · simp [inD_int, c]
        · simp [inD_int, c, i2]
      rw [fm_rows]
      have ha' : acc ++ ((l.filter fun j => j ∉ v).map fun j => v ++ [j]) ++ rowsS l r = rowsS l last := by
        rw [← ha, List.append_assoc]
        rfl
      have hlen := congrArg List.length ha'
      have hm := rowsS_len l last
      have hm2 : last.length * l.length ≤ 3125 * 5 := Nat.mul_le_mul hb hl
      rw [List.length_append, List.length_append] at hlen
      obtain ⟨X, hX⟩ : ∃ X, ((l.filter fun j => j ∉ v).map fun j => v ++ [j]) = X := ⟨_, rfl⟩
      rw [hX] at ha' hlen ⊢
      have i3 : acc.length + X.length ≤ big := by unfold big; omega
      simp [i3]
      exact ⟨r, rfl, acc ++ X, ha', by simp, fun v hv' => hv v (List.mem_cons_of_mem _ hv')⟩
  · rintro ρ ⟨r, acc, x5, e, ha, rfl, _⟩
    have : r = [] := by simpa using e.symm
    subst this
    have e0 : rowsS l [] = [] := rfl
    rw [e0, List.append_nil] at ha
    rw [ha]
    exact q _
theorem run_law_rows {l : List Int} (hl : l.length ≤ 5) : Wp (F__law_rows.run [.lst (l.map D.int)]) fun w outs => outs = [] ∧ ∃ R : List (List Int), (w = .own (R.map intsT) ∨ w = .val (.lst (R.map intsT))) ∧ R ≠ [] ∧ R.length ≤ 6250 ∧ ∀ r ∈ R, RowOf l 5 r := by
  rw [fr__law_rows]; unfold B__law_rows
  have i1 : (l.length : Int) ≤ 1000000 := by omega
  have i0 : (-1000000 : Int) ≤ l.length := by omega
  simp [i1, i0]
  obtain ⟨I, hI⟩ : ∃ I : List D → Ro → Prop, I = fun rest ρ => ∃ (t : Nat) (R L : List (List Int)) (x2 x3 x4 x5 : Option W), rest = rangeD t l.length ∧ ρ = [some (.val (.lst (l.map D.int))), some (.own (R.map intsT)), x2, x3, x4, x5, none] ∧ (x2 = some (.own (L.map intsT)) ∨ x2 = some (.val (.lst (L.map intsT)))) ∧ t ≤ l.length ∧ R ≠ [] ∧ R.length ≤ 2 * 5 ^ t ∧ L.length ≤ 5 ^ t ∧ (∀ r ∈ R, RowOf l 5 r) ∧ ∀ r ∈ L, RowOf l t r := ⟨_, rfl⟩
  have p5 : ∀ t, t ≤ l.length → 5 ^ t ≤ 3125 := fun t ht => Nat.pow_le_pow_right (n := 5) (by decide) (Nat.le_trans ht hl)
  refine wp_for I ?_ (by rw [hI]; exact ⟨0, [[]], [[]], _, none, none, none, by simp, rfl, .inl rfl, by omega, by simp, by simp, by simp, by simp [RowOf], by simp [RowOf]⟩) ?_
  · intro d rest ρ h0
    rw [hI] at h0
    obtain ⟨t, R, L, x2, x3, x4, x5, e, rfl, hx, ht, R0, R1, L1, R2, L2⟩ := h0
    obtain ⟨e1, rfl, rfl⟩ := rangeD_cons e
    have b1 := p5 t ht
    have b2 := rowsS_len l L
    have b3 : (rowsS l L).length ≤ 5 ^ (t + 1) := by
      rw [Nat.pow_succ]
      exact Nat.le_trans b2 (Nat.mul_le_mul L1 hl)
    have b5 := Nat.pow_succ 5 t
    have b4 : R.length + (rowsS l L).length ≤ big := by
      unfold big; omega
    rcases hx with rfl | rfl
    all_goals
      simp
      refine rows_inner hl (Nat.le_trans L1 b1) (fun r hr => by have := (L2 r hr).2.2; omega) _ fun x5 => ?_
      rw [a_kSeq_nx]
      simp [b4]
      rw [hI]
      refine ⟨t + 1, R ++ rowsS l L, rowsS l L, some (.val (.lst ((rowsS l L).map intsT))), some (.val (.int t)), some (.val (.lst ((rowsS l L).map intsT))), x5, by simp, by simp, by simp, by omega, by simp [R0], by rw [List.length_append]; omega, b3, fun r hr => ?_, rowsS_ok L2⟩
      rcases List.mem_append.mp hr with hr | hr
      · exact R2 r hr
      · have := rowsS_ok L2 r hr
        exact ⟨this.1, this.2.1, by have := this.2.2; omega⟩
  · intro ρ h0
    rw [hI] at h0
    obtain ⟨t, R, L, x2, x3, x4, x5, e, rfl, hx, ht, R0, R1, L1, R2, L2⟩ := h0
    have b1 := p5 t ht
    simp
    exact ⟨R, by simp, R0, by omega, R2⟩
/-! ### what is to blame, as the law finds it -/
theorem run_law_blamed (h : SOk s ts) {i : Int} (h0 : 0 ≤ i) (h1 : i < ts.length) {row : List Int} (hr : ROk ts.length row) : F__law_blamed.run [intsT s, .lst (ts.map TT.d), .int i, intsT row] = some (.val (due s ts i row), []) := by
  refine Wp.eq ?_
  rw [fr__law_blamed]; unfold B__law_blamed
  simp
  have vo : ∀ {r : List Int}, ROk ts.length r → F__law_verdict.run [intsT s, .lst (ts.map TT.d), .int i, intsT r] = some (.val (.bl (ver s ts i r)), []) := fun hr => run_law_verdict h h0 h1 hr
  have v0 := vo (r := []) ⟨by simp, by simp, by simp⟩
  simp [intsT] at v0
  refine Wp.rw v0 ?_
  simp
  refine Wp.rw (vo hr) ?_
  by_cases hd : ver s ts i row = ver s ts i []
  · have e : due s ts i row = .non := if_pos hd
    simp [hd, e, eqD_bl]
  have e : due s ts i row = intsT (best (some_ s ts i row)) := if_neg hd
  have hb : (ver s ts i row == ver s ts i []) = false := beq_eq_false_iff_ne.mpr hd
  simp [hb, eqD_bl]
  have pl := parts_len hr.r3
  have fl := List.length_filter_le (fun v => ver s ts i v != ver s ts i []) (partsF row)
  obtain ⟨I, hI⟩ : ∃ I : List D → Ro → Prop, I = fun rest ρ => ∃ (r : List Int) (f : List (List Int)) (x5 x6 : Option W), rest = r.map D.int ∧ ρ = [some (.val (intsT s)), some (.val (.lst (ts.map TT.d))), some (.val (.int i)), some (.val (intsT row)), some (.val (.bl (ver s ts i []))), x5, x6, none, none] ∧ (x5 = some (.own (f.map intsT)) ∨ x5 = some (.val (.lst (f.map intsT)))) ∧ f.length * 2 ^ r.length ≤ 64 ∧ r.foldl partsS f = partsF row ∧ ∀ v ∈ f, v.length + r.length ≤ 6 := ⟨_, rfl⟩
  refine wp_for I ?_ (by rw [hI]; exact ⟨row, [[]], _, none, rfl, rfl, .inr rfl, by have := Nat.pow_le_pow_right (n := 2) (by decide) hr.r3; simpa using this, rfl, by simpa using hr.r3⟩) ?_
  · intro d rest ρ h0
    rw [hI] at h0
    obtain ⟨r, f, x5, x6, e, rfl, hx, hf, hr, hv⟩ := h0
    cases r with
    | nil => simp at e
    | cons x r =>
      simp only [List.map_cons, List.cons.injEq] at e
      obtain ⟨rfl, rfl⟩ := e
      have hp : 1 ≤ 2 ^ r.length := Nat.one_le_two_pow
      have hf2 : 2 * f.length * 2 ^ r.length ≤ 64 := by
        rw [List.length_cons, Nat.pow_succ] at hf
        rw [Nat.mul_comm 2, Nat.mul_assoc, Nat.mul_comm 2]
        exact hf
      have hf3 : 2 * f.length ≤ 64 := Nat.le_trans (Nat.le_mul_of_pos_right _ hp) hf2
      have i2 : f.length + f.length ≤ big := by unfold big; omega
      suffices go : I (r.map D.int) [some (.val (intsT s)), some (.val (.lst (ts.map TT.d))), some (.val (.int i)), some (.val (intsT row)), some (.val (.bl (ver s ts i []))), some (.own ((partsS f x).map intsT)), some (.val (.int x)), none, none] by
        rcases hx with rfl | rfl
        all_goals
          simp
          refine wp_map (l := f) intsT (fun v => intsT (v ++ [x])) (fun v hv' => ?_) (by unfold big; omega) ?_
          · have := hv v hv'
            rw [List.length_cons] at this
            have i1 : v.length + 1 ≤ big := by unfold big; omega
            simp [i1]
          simp [i2]
          simpa [partsS, Function.comp_def] using go
      rw [hI]
      refine ⟨r, partsS f x, _, some (.val (.int x)), rfl, rfl, .inl rfl, by unfold partsS; rw [List.length_append, List.length_map, ← Nat.two_mul]; exact hf2, hr, fun v hv' => ?_⟩
      rcases List.mem_append.mp hv' with hv' | hv'
      · have := hv v hv'
        rw [List.length_cons] at this
        omega
      · obtain ⟨u, hu, rfl⟩ := List.mem_map.mp hv'
        have := hv u hu
        simp at this ⊢
        omega
  · intro ρ h0
    rw [hI] at h0
    obtain ⟨r, f, x5, x6, e', rfl, hx, hf, hr', hv⟩ := h0
    have : r = [] := by simpa using e'.symm
    subst this
    simp at hr'
    subst hr'
    clear hI I
    rcases hx with rfl | rfl
    all_goals
      simp
      refine wp_comp (l := partsF row) intsT (fun v => if (ver s ts i v != ver s ts i []) = true then some (lpD v) else none) (fun v hv => ?_) (by simp; unfold big; omega) ?_
      · simp
        refine Wp.rw (vo (hr.sub (parts_sub hv))) ?_
        by_cases q : ver s ts i v = ver s ts i []
        · simp [q, eqD_bl]
        · have qb : (ver s ts i v == ver s ts i []) = false := beq_eq_false_iff_ne.mpr q
          simp [qb, eqD_bl, bne, lpD]
          exact q
      rw [List.nil_append, fm_eq2]
      obtain ⟨m1, m2⟩ := min_pairs (some_ne hd)
      unfold some_ at m1
      simp [m1, e, lpD]
      rfl
theorem run_law_others (h2 : ts.length ≤ 6) (i : Int) : F__law_others.run [.lst (ts.map TT.d), .int i] = some (.own ((others ts.length i).map D.int), []) := by
  refine Wp.eq ?_
  rw [fr__law_others]; unfold B__law_others
  have i1 : (ts.length : Int) ≤ 1000000 := by omega
  have i0 : (-1000000 : Int) ≤ ts.length := by omega
  simp [i1, i0]
  rw [rangeD_map]
  refine wp_comp (l := (List.range ts.length).map fun i : Nat => (i : Int)) D.int (fun j => if j = i then none else some (.int j)) (fun j hj => ?_) (by simp [big]; omega) ?_
  · by_cases e : j = i <;> simp [e]
  · have e : ∀ l : List Int, l.filterMap (fun j => if j = i then none else some (D.int j)) = (l.filter fun j => j ≠ i).map D.int := fun l => by
      induction l with
      | nil => rfl
      | cons x l ih =>
        by_cases q : x = i
        · simp [q] at ih ⊢
          simpa using ih
        · simp [q] at ih ⊢
          exact ih
    rw [e]
    simp [others]
theorem filter_ne_len {l : List Int} (nd : l.Nodup) {x : Int} (hx : x ∈ l) : (l.filter fun y => y ≠ x).length + 1 = l.length := by
  induction l with
  | nil => simp at hx
  | cons a l ih =>
    have q := List.nodup_cons.mp nd
    by_cases e : a = x
    · subst e
      have : l.filter (fun y => y ≠ a) = l := List.filter_eq_self.mpr fun y hy => by
        simp
        intro e
        subst e
        exact q.1 hy
      simp [this]
      intro y hy e
      subst e
      exact q.1 hy
    · have hx' : x ∈ l := by
        rcases List.mem_cons.mp hx with e' | e'
        · exact absurd e'.symm e
        · exact e'
      have := ih q.2 hx'
      rw [List.filter_cons, if_pos (by simpa using e), List.length_cons, List.length_cons]
      omega
theorem others_len {m : Nat} {i : Int} (h0 : 0 ≤ i) (h1 : i < m) : (others m i).length + 1 = m := by
  have := filter_ne_len (range_nodup m) (x := i) (List.mem_map.mpr ⟨i.toNat, List.mem_range.mpr (by omega), by omega⟩)
  unfold others
  simpa using this
theorem due_rp {i : Int} {row : List Int} (t2 : ts.length ≤ 6) (hr : ROk ts.length row) : rp (due s ts i row) = true ∧ dep (due s ts i row) ≤ 1 ∧ wt (due s ts i row) ≤ 100 := by
  unfold due
  by_cases hd : ver s ts i row = ver s ts i []
  · rw [if_pos hd]
    simp [rp, dep, wt]
  · rw [if_neg hd]
    have m2 := (min_pairs (some_ne hd)).2
    have ok := hr.sub (parts_sub (List.mem_filter.mp m2).1)
    exact ⟨rp_ints fun i hi => by have := ok.r1 i hi; omega, dep_ints _, by have := wt_ints (best (some_ s ts i row)); have := ok.r3; omega⟩
theorem lawA_run (ns : List Int) : F_law.run [.lst (ns.map D.int)] = some (.val (.bl true), []) := by
  rw [fr_law]; unfold B_law
  refine frameC rfl rfl 8 2 6 (by decide) (by decide) _ (fun xs => ∃ x4 x5 x6 x7 x8 x9 x10 x11 : Option W, xs = [x4, x5, x6, x7, x8, x9, x10, x11]) ⟨none, none, none, none, none, none, none, none, rfl⟩ ns ?_
  rintro K pen x1 lap xs hp hK hlap ⟨x4, x5, x6, x7, x8, x9, x10, x11, rfl⟩
  obtain ⟨most, hm, hat⟩ : ∃ most : Nat, most ≤ 6 ∧ atI [D.int 6, D.int 4, D.int 5, D.int 3, D.int 5, D.int 6] lap = some (.int most) := by
    have : lap = 0 ∨ lap = 1 ∨ lap = 2 ∨ lap = 3 ∨ lap = 4 ∨ lap = 5 := by omega
    rcases this with rfl | rfl | rfl | rfl | rfl | rfl
    · exact ⟨6, by decide, rfl⟩
    · exact ⟨4, by decide, rfl⟩
    · exact ⟨5, by decide, rfl⟩
    · exact ⟨3, by decide, rfl⟩
    · exact ⟨5, by decide, rfl⟩
    · exact ⟨6, by decide, rfl⟩
  simp [hat]
  refine Wp.of (run_suite hp (by omega) hm) ?_
  rintro _ _ ⟨s, ts, pen1, rfl, rfl, h, _, hp1⟩
  have t2 := h.t2
  simp
  refine Wp.rw (run_made h) ?_
  have i1 : (ts.length : Int) ≤ 1000000 := by omega
  have i0 : (-1000000 : Int) ≤ ts.length := by omega
  simp [i1, i0]
  obtain ⟨I, hI⟩ : ∃ I : List D → Ro → Prop, I = fun rest ρ => ∃ (k lo : Nat) (pen : List D) (x7 x8 x9 x10 x11 : Option W), rest = rangeD lo ts.length ∧ ρ = [some (.bor (ns.map D.int)), x1, some (.own pen), some (.val (.int lap)), some (.val (intsT s)), some (.val (.lst (ts.map TT.d))), some (.val (suD s ts)), x7, x8, x9, x10, x11] ∧ PenOk k pen ∧ k ≤ K + 1000 + 10 * lo ∧ lo ≤ ts.length := ⟨_, rfl⟩
  refine wp_for I ?_ (by rw [hI]; exact ⟨_, 0, pen1, x7, x8, x9, x10, x11, by simp, rfl, hp1, by omega, by omega⟩) ?_
  · intro d rest ρ h0
    rw [hI] at h0
    obtain ⟨k, lo, pen, x7, x8, x9, x10, x11, e, rfl, hp, hk, hlo⟩ := h0
    obtain ⟨e1, rfl, rfl⟩ := rangeD_cons e
    have l0 : (0 : Int) ≤ lo := by omega
    have ol := others_len (m := ts.length) (i := (lo : Int)) l0 e1
    obtain ⟨okL, noL⟩ := others_ok (m := ts.length) t2 (lo : Int)
    simp
    refine Wp.rw (run_law_others t2 lo) ?_
    simp
    refine Wp.of (run_law_rows (l := others ts.length (lo : Int)) (by omega)) ?_
    rintro _ _ ⟨rfl, R, hw, R0, R1, R2⟩
    have okR : ∀ r ∈ R, ROk ts.length r ∧ (lo : Int) ∉ r := fun r hr => by
      obtain ⟨a, b, c⟩ := R2 r hr
      exact ⟨⟨fun i hi => okL.r1 i (b i hi), a, by omega⟩, fun z => noL (b _ z)⟩
    have Rl : 0 < R.length := List.length_pos_iff.mpr R0
    obtain ⟨J, hJ⟩ : ∃ J : List D → Ro → Prop, J = fun rest ρ => ∃ (k' lo' : Nat) (pen : List D) (x8 x9 x10 x11 : Option W), rest = rangeD lo' 3 ∧ ρ = [some (.bor (ns.map D.int)), x1, some (.own pen), some (.val (.int lap)), some (.val (intsT s)), some (.val (.lst (ts.map TT.d))), some (.val (suD s ts)), some (.val (.int lo)), x8, x9, x10, x11] ∧ PenOk k' pen ∧ k' ≤ k + lo' ∧ lo' ≤ 3 ∧ (x8 = some (.own (R.map intsT)) ∨ x8 = some (.val (.lst (R.map intsT)))) := ⟨_, rfl⟩
    have fin : ∀ {o : Out} {ρ' : Ro} {x8 : Option W}, (x8 = some (.own (R.map intsT)) ∨ x8 = some (.val (.lst (R.map intsT)))) → J (rangeD 0 3) [some (.bor (ns.map D.int)), x1, some (.own pen), some (.val (.int lap)), some (.val (intsT s)), some (.val (.lst (ts.map TT.d))), some (.val (suD s ts)), some (.val (.int lo)), x8, x9, x10, x11] := fun {_ _ x8} hx => by
      rw [hJ]
      exact ⟨k, 0, pen, x8, x9, x10, x11, by simp, rfl, hp, by omega, by omega, hx⟩
    rcases hw with rfl | rfl
    all_goals
      simp
      refine wp_for J ?_ (fin (o := .nx) (ρ' := []) (by simp)) ?_
      · intro d rest ρ h0
        rw [hJ] at h0
        obtain ⟨k', lo', pen, x8, x9, x10, x11, e, rfl, hp, hk', hlo', hx⟩ := h0
        obtain ⟨e2, rfl, rfl⟩ := rangeD_cons e
        rcases hx with rfl | rfl
        all_goals
          simp
          refine Wp.of (run_draw hp (by omega) (by omega) (by omega)) ?_
          rintro _ _ ⟨v, pen2, rfl, rfl, v0, v1, hp2⟩
          have q0 : (0 : Int) ≤ (R.length : Int) - 1 - v := by omega
          have q1 : (R.length : Int) - 1 - v < R.length := by omega
          obtain ⟨row, hrow⟩ : ∃ row, R[((R.length : Int) - 1 - v).toNat]? = some row := ⟨_, List.getElem?_eq_getElem (by omega)⟩
          have hat : atI (R.map intsT) ((R.length : Int) - 1 - v) = some (intsT row) := by
            rw [atI_get q0 (by simpa using q1), List.getElem?_map, hrow]
            rfl
          obtain ⟨okr, nor⟩ := okR row (List.mem_of_getElem? hrow)
          simp [hat]
          refine Wp.rw (run_law_blamed h l0 e1 okr) ?_
          simp
          refine Wp.rw (run_blamed h l0 e1 okr nor) ?_
          simp
          refine Wp.rw (run_blamed h l0 e1 okr nor) ?_
          simp
          obtain ⟨d1, d2, d3⟩ := due_rp (s := s) (i := (lo : Int)) t2 okr
          refine Wp.rw (run_is_equal (d := .lst [due s ts lo row, due s ts lo row]) (by simp [rp, rps, d1]) (by simp only [dep, deps]; omega) (by simp only [wt, wts]; omega)) ?_
          simp
          rw [hJ]
          exact ⟨k' + 1, lo' + 1, pen2, _, _, _, _, by simp, rfl, hp2, by omega, by omega, by simp⟩
      · intro ρ h0
        rw [hJ] at h0
        obtain ⟨k', lo', pen, x8, x9, x10, x11, e, rfl, hp, hk', hlo', hx⟩ := h0
        simp
        rw [hI]
        exact ⟨k', lo + 1, pen, _, x8, x9, x10, x11, by simp, rfl, hp, by omega, by omega⟩
  · intro ρ h0
    rw [hI] at h0
    obtain ⟨k, lo, pen, x7, x8, x9, x10, x11, e, rfl, hp, hk, hlo⟩ := h0
    simp
    exact ⟨pen, _, ⟨rfl, rfl⟩, ⟨_, _, _, _, _, _, _, _, rfl⟩, hp.mono (by omega)⟩
end DT

end
section
open PySem PySem.W PyProof.Rows
set_option maxRecDepth 100000 in
set_option maxHeartbeats 0 in
theorem PySem.Challenge.cw_dirtytests_k63_what_is_to_blame_holds : PySem.Challenge.rw_dirtytests_k63_what_is_to_blame.Holds := by
  w_on; o_law; k_head; (case hw => w_witness2)
  k_fill
  refine DT.walkG_of (l := PySem.Challenge.rw_dirtytests_k63_what_is_to_blame) (n := 63) (k := 17) rfl (by decide) rfl ⟨rfl, by decide, by decide⟩ (fun w h Y => PySem.W.kIn_of Y) ?F
  case F =>
    intro w mg fa h KX G hmg
    have hrun := fun (ns : List Int) (_ : ns.length ≤ 63) => DT.lawA_run ns
    refine' DT.all_mk KX G hmg hrun ?aC ?pg ?hd ?po ?sa ?mk ?kC ?nA ?nB ?z_len ?z_tuple ?z_list ?z_all ?z_any ?z_str ?z_repr ?z_max ?z_min ?z_range ?z_zip ?z_enumerate ?z_set ?z_sorted ?z_isinstance ?z_dict ?z_int ?z_bool ?c_NONE ?c_BAR ?c_ANY ?c_MOST_VALUE ?c_MOST_FIELDS ?c_MOST_READS ?c_HEAD ?c_MOST_TESTS ?d_SIGNS ?e_SIGNS ?f_SIGNS ?h_SIGNS ?l_SIGNS ?i1 ?i2 ?i3 ?i4 ?a__law_source ?l__law_source ?c__law_source ?k__law_source ?a__law_cell ?l__law_cell ?c__law_cell ?k__law_cell ?a__law_draw ?l__law_draw ?c__law_draw ?k__law_draw ?a__law_choose ?l__law_choose ?c__law_choose ?k__law_choose ?a__law_test ?l__law_test ?c__law_test ?k__law_test ?a__law_suite ?l__law_suite ?c__law_suite ?k__law_suite ?a_numbers_in ?l_numbers_in ?c_numbers_in ?k_numbers_in ?a_words_in ?l_words_in ?c_words_in ?k_words_in ?a_test_in ?l_test_in ?c_test_in ?k_test_in ?a_is_between ?l_is_between ?c_is_between ?k_is_between ?a_are_between ?l_are_between ?c_are_between ?k_are_between ?a_is_record ?l_is_record ?c_is_record ?k_is_record ?a_ascends ?l_ascends ?c_ascends ?k_ascends ?a_are_writes ?l_are_writes ?c_are_writes ?k_are_writes ?a_is_test ?l_is_test ?c_is_test ?k_is_test ?a_joined ?l_joined ?c_joined ?k_joined ?a_line_of ?l_line_of ?c_line_of ?k_line_of ?a_text_of ?l_text_of ?c_text_of ?k_text_of ?p1_Suite_init ?p2_Suite_init ?l_Suite_init ?c_Suite_init ?k_Suite_init ?p0_Suite_read ?p1_Suite_read ?p2_Suite_read ?p3_Suite_read ?p4_Suite_read ?l_Suite_read ?c_Suite_read ?k_Suite_read ?a__law_text ?l__law_text ?c__law_text ?k__law_text ?a__law_made ?l__law_made ?c__law_made ?k__law_made ?a__law_rows ?l__law_rows ?c__law_rows ?k__law_rows ?a__law_others ?l__law_others ?c__law_others ?k__law_others ?a__law_passes ?l__law_passes ?c__law_passes ?k__law_passes ?a__law_behind ?l__law_behind ?c__law_behind ?k__law_behind ?a__law_verdict ?l__law_verdict ?c__law_verdict ?k__law_verdict ?a__law_blamed ?l__law_blamed ?c__law_blamed ?k__law_blamed ?a__law_is_equal ?l__law_is_equal ?c__law_is_equal ?k__law_is_equal ?a_need_suite ?l_need_suite ?c_need_suite ?k_need_suite ?p1_Suite_len ?p2_Suite_len ?l_Suite_len ?c_Suite_len ?k_Suite_len ?a_need_number ?l_need_number ?c_need_number ?k_need_number ?a_are_numbers ?l_are_numbers ?c_are_numbers ?k_are_numbers ?a_is_row_of_others ?l_is_row_of_others ?c_is_row_of_others ?k_is_row_of_others ?a_need_others ?l_need_others ?c_need_others ?k_need_others ?a_values_at ?l_values_at ?c_values_at ?k_values_at ?a_passes_at ?l_passes_at ?c_passes_at ?k_passes_at ?p1_Suite_start ?p4_Suite_start ?p2_Suite_start ?p3_Suite_start ?l_Suite_start ?c_Suite_start ?k_Suite_start ?a_written ?l_written ?c_written ?k_written ?a_record_after ?l_record_after ?c_record_after ?k_record_after ?p1_Suite_getitem ?p2_Suite_getitem ?p3_Suite_getitem ?l_Suite_getitem ?c_Suite_getitem ?k_Suite_getitem ?a_behind ?l_behind ?c_behind ?k_behind ?a_verdict_of ?l_verdict_of ?c_verdict_of ?k_verdict_of ?a_parts_of ?l_parts_of ?c_parts_of ?k_parts_of ?a_blamed ?l_blamed ?c_blamed ?k_blamed ?a_law ?l_law ?c_law ?k_law
    (case aC => k_is)
    (case pg => k_is)
    (case hd => k_is)
    (case po => k_is)
    (case sa => k_is)
    (case mk => k_is)
    (case kC => k_is)
    (case nA => k_is)
    (case nB => k_is)
    (case z_len => k_is)
    (case z_tuple => k_is)
    (case z_list => k_is)
    (case z_all => k_is)
    (case z_any => k_is)
    (case z_str => k_is)
    (case z_repr => k_is)
    (case z_max => k_is)
    (case z_min => k_is)
    (case z_range => k_is)
    (case z_zip => k_is)
    (case z_enumerate => k_is)
    (case z_set => k_is)
    (case z_sorted => k_is)
    (case z_isinstance => k_is)
    (case z_dict => k_is)
    (case z_int => k_is)
    (case z_bool => k_is)
    (case c_NONE => k_is)
    (case c_BAR => k_is)
    (case c_ANY => k_is)
    (case c_MOST_VALUE => k_is)
    (case c_MOST_FIELDS => k_is)
    (case c_MOST_READS => k_is)
    (case c_HEAD => k_is)
    (case c_MOST_TESTS => k_is)
    (case d_SIGNS => k_is)
    (case e_SIGNS => k_is)
    (case f_SIGNS => exact ⟨⟨_, _, rfl, rfl⟩, ⟨_, _, rfl, rfl⟩, ⟨_, _, rfl, rfl⟩, ⟨_, _, rfl, rfl⟩, ⟨_, _, rfl, rfl⟩, trivial⟩)
    (case h_SIGNS => exact ⟨⟨_, _, rfl, rfl⟩, ⟨_, _, rfl, rfl⟩, ⟨_, _, rfl, rfl⟩, ⟨_, _, rfl, rfl⟩, ⟨_, _, rfl, rfl⟩, trivial⟩)
    (case l_SIGNS => first | decide | rfl)
    (case i1 => k_is)
    (case i2 => k_is)
    (case i3 => k_is)
    (case i4 => k_is)
    (case a__law_source => k_is)
    (case l__law_source => k_is)
    (case c__law_source => k_is)
    (case k__law_source => k_is)
    (case a__law_cell => k_is)
    (case l__law_cell => k_is)
    (case c__law_cell => k_is)
    (case k__law_cell => k_is)
    (case a__law_draw => k_is)
    (case l__law_draw => k_is)
    (case c__law_draw => k_is)
    (case k__law_draw => k_is)
    (case a__law_choose => k_is)
    (case l__law_choose => k_is)
    (case c__law_choose => k_is)
    (case k__law_choose => k_is)
    (case a__law_test => k_is)
    (case l__law_test => k_is)
    (case c__law_test => k_is)
    (case k__law_test => k_is)
    (case a__law_suite => k_is)
    (case l__law_suite => k_is)
    (case c__law_suite => k_is)
    (case k__law_suite => k_is)
    (case a_numbers_in => k_is)
    (case l_numbers_in => k_is)
    (case c_numbers_in => k_is)
    (case k_numbers_in => k_is)
    (case a_words_in => k_is)
    (case l_words_in => k_is)
    (case c_words_in => k_is)
    (case k_words_in => k_is)
    (case a_test_in => k_is)
    (case l_test_in => k_is)
    (case c_test_in => k_is)
    (case k_test_in => k_is)
    (case a_is_between => k_is)
    (case l_is_between => k_is)
    (case c_is_between => k_is)
    (case k_is_between => k_is)
    (case a_are_between => k_is)
    (case l_are_between => k_is)
    (case c_are_between => k_is)
    (case k_are_between => k_is)
    (case a_is_record => k_is)
    (case l_is_record => k_is)
    (case c_is_record => k_is)
    (case k_is_record => k_is)
    (case a_ascends => k_is)
    (case l_ascends => k_is)
    (case c_ascends => k_is)
    (case k_ascends => k_is)
    (case a_are_writes => k_is)
    (case l_are_writes => k_is)
    (case c_are_writes => k_is)
    (case k_are_writes => k_is)
    (case a_is_test => k_is)
    (case l_is_test => k_is)
    (case c_is_test => k_is)
    (case k_is_test => k_is)
    (case a_joined => k_is)
    (case l_joined => k_is)
    (case c_joined => k_is)
    (case k_joined => k_is)
    (case a_line_of => k_is)
    (case l_line_of => k_is)
    (case c_line_of => k_is)
    (case k_line_of => k_is)
    (case a_text_of => k_is)
    (case l_text_of => k_is)
    (case c_text_of => k_is)
    (case k_text_of => k_is)
    (case p1_Suite_init => k_is)
    (case p2_Suite_init => k_is)
    (case l_Suite_init => k_is)
    (case c_Suite_init => k_is)
    (case k_Suite_init => k_is)
    (case p0_Suite_read => k_is)
    (case p1_Suite_read => k_is)
    (case p2_Suite_read => k_is)
    (case p3_Suite_read => k_is)
    (case p4_Suite_read => k_is)
    (case l_Suite_read => k_is)
    (case c_Suite_read => k_is)
    (case k_Suite_read => k_is)
    (case a__law_text => k_is)
    (case l__law_text => k_is)
    (case c__law_text => k_is)
    (case k__law_text => k_is)
    (case a__law_made => k_is)
    (case l__law_made => k_is)
    (case c__law_made => k_is)
    (case k__law_made => k_is)
    (case a__law_rows => k_is)
    (case l__law_rows => k_is)
    (case c__law_rows => k_is)
    (case k__law_rows => k_is)
    (case a__law_others => k_is)
    (case l__law_others => k_is)
    (case c__law_others => k_is)
    (case k__law_others => k_is)
    (case a__law_passes => k_is)
    (case l__law_passes => k_is)
    (case c__law_passes => k_is)
    (case k__law_passes => k_is)
    (case a__law_behind => k_is)
    (case l__law_behind => k_is)
    (case c__law_behind => k_is)
    (case k__law_behind => k_is)
    (case a__law_verdict => k_is)
    (case l__law_verdict => k_is)
    (case c__law_verdict => k_is)
    (case k__law_verdict => k_is)
    (case a__law_blamed => k_is)
    (case l__law_blamed => k_is)
    (case c__law_blamed => k_is)
    (case k__law_blamed => k_is)
    (case a__law_is_equal => k_is)
    (case l__law_is_equal => k_is)
    (case c__law_is_equal => k_is)
    (case k__law_is_equal => k_is)
    (case a_need_suite => k_is)
    (case l_need_suite => k_is)
    (case c_need_suite => k_is)
    (case k_need_suite => k_is)
    (case p1_Suite_len => k_is)
    (case p2_Suite_len => k_is)
    (case l_Suite_len => k_is)
    (case c_Suite_len => k_is)
    (case k_Suite_len => k_is)
    (case a_need_number => k_is)
    (case l_need_number => k_is)
    (case c_need_number => k_is)
    (case k_need_number => k_is)
    (case a_are_numbers => k_is)
    (case l_are_numbers => k_is)
    (case c_are_numbers => k_is)
    (case k_are_numbers => k_is)
    (case a_is_row_of_others => k_is)
    (case l_is_row_of_others => k_is)
    (case c_is_row_of_others => k_is)
    (case k_is_row_of_others => k_is)
    (case a_need_others => k_is)
    (case l_need_others => k_is)
    (case c_need_others => k_is)
    (case k_need_others => k_is)
    (case a_values_at => k_is)
    (case l_values_at => k_is)
    (case c_values_at => k_is)
    (case k_values_at => k_is)
    (case a_passes_at => k_is)
    (case l_passes_at => k_is)
    (case c_passes_at => k_is)
    (case k_passes_at => k_is)
    (case p1_Suite_start => k_is)
    (case p4_Suite_start => k_is)
    (case p2_Suite_start => k_is)
    (case p3_Suite_start => k_is)
    (case l_Suite_start => k_is)
    (case c_Suite_start => k_is)
    (case k_Suite_start => k_is)
    (case a_written => k_is)
    (case l_written => k_is)
    (case c_written => k_is)
    (case k_written => k_is)
    (case a_record_after => k_is)
    (case l_record_after => k_is)
    (case c_record_after => k_is)
    (case k_record_after => k_is)
    (case p1_Suite_getitem => k_is)
    (case p2_Suite_getitem => k_is)
    (case p3_Suite_getitem => k_is)
    (case l_Suite_getitem => k_is)
    (case c_Suite_getitem => k_is)
    (case k_Suite_getitem => k_is)
    (case a_behind => k_is)
    (case l_behind => k_is)
    (case c_behind => k_is)
    (case k_behind => k_is)
    (case a_verdict_of => k_is)
    (case l_verdict_of => k_is)
    (case c_verdict_of => k_is)
    (case k_verdict_of => k_is)
    (case a_parts_of => k_is)
    (case l_parts_of => k_is)
    (case c_parts_of => k_is)
    (case k_parts_of => k_is)
    (case a_blamed => k_is)
    (case l_blamed => k_is)
    (case c_blamed => k_is)
    (case k_blamed => k_is)
    (case a_law => k_is)
    (case l_law => k_is)
    (case c_law => k_is)
    (case k_law => k_is)

end