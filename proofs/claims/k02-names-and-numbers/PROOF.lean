import PyProof.Rows.All
import Wide.All
import OpenK.AllK
import Wide.FinOn
import HandS.ForMost
import HandS.Zip
import KE.GoesMore
import KE.GoesEnumKw
import HandS.SortKw
import KE.KDictZip
import HandS.Strs
import HandS.Set
import HandS.SetFor
import HandS.ForExc
import HandS.Walk
import KE.SortData
import KE.DatumOrd
import KE.KRevSl
import HandS.TupAny
import HandS.TupMul
import HandS.Wide
import HandS.IsInst
import HandS.Deep
import PyProof.ReprRoads
import PyProof.P3In
import KE.DataCmp
import HandS.Text
import HandS.More
import KE.KDictCopyH
import KE.KDictSum
import HandS.Style
import HandS.DictComp
import KE.KDictPairs
import HandS.Replace
import HandS.StrMore
import HandS.Defaults
import HandS.Small
import HandS.Ends
import HandS.HeadEnd
import HandS.HeadHook1
import HandS.HeadHook2
import HandS.HeadHook4
import HandS.Head0
import HandS.Head1
import HandS.Head2
import HandS.Base
import HandS.Call
import HandS.Words
import KE.KStateDown
import HandS.Codes
import KE.IntTextText
import KE.KIntText
import PySem.Challenge.RW_tiekeep_k02_names_and_numbers
set_option Elab.async false
set_option linter.all false
set_option maxRecDepth 100000
set_option maxHeartbeats 4000000
/-! Z1: zip(.., .., strict=True) of two lists or two tuples of one length. -/
namespace Zs
open PySem PySem.Spec PyProof.Rows L2
/-- a kind of sequence with its iterator -/
structure SK where
  it : Heap → Addr → Addr → Nat → Prop
  sq : Heap → Addr → Array Value → Prop
  itx : ∀ {h h' : Heap} {a b l : Addr} {i : Nat}, it h a l i → Heap.ExtBut b h h' → a ≠ b → it h' a l i
  ita : ∀ {h h' : Heap} {a l : Addr} {i : Nat}, it h a l i → (∀ o, h.get? a = some o → h'.get? a = some o) → it h' a l i
  itg : ∀ {h : Heap} {a l : Addr} {i : Nat}, it h a l i → ∃ o fs, h.get? a = some o ∧ o.data = .fields fs
  sqx : ∀ {h h' : Heap} {a b : Addr} {xs : Array Value}, sq h a xs → Heap.ExtBut b h h' → a ≠ b → sq h' a xs
  item : ∀ {prog : Program} {w : World} {A : Around} {E : Value → Shared → Prop} {s : Shared} {a l : Addr} {i : Nat} {xs : Array Value} {x : Value} {Q : Value → Shared → Prop}, it s.heap a l i → sq s.heap l xs → xs[i]? = some x →
    (∀ h', it h' a l (i + 1) → Heap.SameBut a s.heap h' → Q x { s with heap := h' }) → wpAny (model prog w) A (Builtin.SmallTypes.nextOf (.ref a)) Q E s
  over : ∀ {prog : Program} {w : World} {A : Around} {E : Value → Shared → Prop} {s : Shared} {a l : Addr} {i : Nat} {xs : Array Value} {Q : Value → Shared → Prop}, A.handled = none → it s.heap a l i → sq s.heap l xs → xs[i]? = none →
    (∀ h' e, Heap.ExtBut a s.heap h' → (∃ o, h'.get? e = some o ∧ o.cls = .type "StopIteration") → E (.ref e) { s with heap := h' }) → wpAny (model prog w) A (Builtin.SmallTypes.nextOf (.ref a)) Q E s
def skT : SK where
  it := fun h a l i => h.IsTupleIter a l i
  sq := fun h a xs => h.IsTuple a xs
  itx := fun x hs hab => x.extBut hs hab
  ita := fun x e => x.at e
  itg := fun ⟨o, e, _, d⟩ => ⟨o, _, e, d⟩
  sqx := fun x hs hab => x.extBut hs hab
  item := fun hi hl hx h => RZ.nextOf_tuple_item hi hl hx h
  over := fun hh hi hl hx h => RZ.nextOf_tuple_end hh hi hl hx h
def skL : SK where
  it := fun h a l i => h.IsListIter a l i
  sq := fun h a xs => h.IsList a xs
  itx := fun x hs hab => x.extBut hs hab
  ita := fun x e => x.at e
  itg := fun ⟨o, e, _, d⟩ => ⟨o, _, e, d⟩
  sqx := fun x hs hab => x.extBut hs hab
  item := fun hi hl hx h => wpAny_nextOf_list_item hi hl hx h
  over := fun hh hi hl hx h => wpAny_nextOf_list_end hh hi hl hx h
abbrev IsZS (h : Heap) (z TI TO : Addr) (f0 : Value) : Prop :=
  h.get? z = some { cls := .type "zip", dict := none, data := .fields #[f0, .bool false, .bool true, .ref TI, .ref TO], slots := #[] }
section
variable {prog : Program} {w : World} {A : Around} {E : Value → Shared → Prop} {s : Shared} (S : SK)
theorem orEnd_item {a l : Addr} {i : Nat} {xs : Array Value} {x : Value} {Q : Option Value → Shared → Prop} (hi : S.it s.heap a l i) (hl : S.sq s.heap l xs) (hx : xs[i]? = some x)
    (h : ∀ h', S.it h' a l (i + 1) → Heap.SameBut a s.heap h' → Q (some x) { s with heap := h' }) : wpAny (model prog w) A (Builtin.SmallTypes.nextOrEnd (.ref a)) Q E s := by
  unfold Builtin.SmallTypes.nextOrEnd
  exact wpAny_bind (wpAny_attempt (S.item hi hl hx fun h' a1 a2 => wpAny_pure (h h' a1 a2)))
theorem orEnd_over {a l : Addr} {i : Nat} {xs : Array Value} {Q : Option Value → Shared → Prop} (hh : A.handled = none) (hi : S.it s.heap a l i) (hl : S.sq s.heap l xs) (hx : xs[i]? = none)
    (h : ∀ h', Heap.ExtBut a s.heap h' → Q none { s with heap := h' }) : wpAny (model prog w) A (Builtin.SmallTypes.nextOrEnd (.ref a)) Q E s := by
  unfold Builtin.SmallTypes.nextOrEnd
  refine wpAny_bind (wpAny_attempt (S.over hh hi hl hx fun h' e x he => ?_))
  obtain ⟨o, ho, hc⟩ := he
  exact wpAny_bind (wpAny_isInstance (T := "StopIteration") (b := true) ⟨o, ho, hc⟩ isSubtype_stop (wpAny_pure (h h' x)))
theorem next_item {z TI TO i1 i2 l1 l2 : Addr} {k : Nat} {xs ys : Array Value} {x y a b : Value} {Q : Value → Shared → Prop} (D : ZipApart z TI TO i1 i2 l1 l2)
    (hz : IsZS s.heap z TI TO .none) (hTI : IsPair s.heap TI (.ref i1) (.ref i2)) (hTO : IsPair s.heap TO a b)
    (h1 : S.it s.heap i1 l1 k) (h2 : S.it s.heap i2 l2 k) (hl1 : S.sq s.heap l1 xs) (hl2 : S.sq s.heap l2 ys) (hx : xs[k]? = some x) (hy : ys[k]? = some y)
    (hQ : ∀ h', IsZS h' z TI TO (rawInt s.heap.objs.size) → IsPair h' TO x y → S.it h' i1 l1 (k + 1) → S.it h' i2 l2 (k + 1) → IsPair h' s.heap.objs.size x y → h'.objs.size = s.heap.objs.size + 1 →
      (∀ c o, c ≠ z → c ≠ TO → c ≠ i1 → c ≠ i2 → s.heap.get? c = some o → h'.get? c = some o) → Q (.ref s.heap.objs.size) { s with heap := h' }) :
    wpAny (model prog w) A (Builtin.«zip.__next__» ⟨[.ref z], []⟩) (fun fin s' => ∃ v, fin = .done (.ret v) ∧ Q v s') E s := by
  show wpAny _ _ (field (.ref z) 2 >>= _) _ _ _
  refine wpAny_bind (wpAny_field hz rfl (x := .bool true) rfl ?_)
  show wpAny _ _ (field (.ref z) 3 >>= _) _ _ _
  refine wpAny_bind (wpAny_field hz rfl (x := .ref TI) rfl ?_)
  refine wpAny_bind (wpAny_seqItems hTI rfl ?_)
  show wpAny _ _ (Builtin.SmallTypes.ownedTupleIsFree (.ref z) >>= _) _ _ _
  refine wpAny_bind ?_
  unfold Builtin.SmallTypes.ownedTupleIsFree
  refine wpAny_bind (wpAny_field hz rfl (x := .none) rfl (wpAny_pure ?_))
  simp only [if_true]
  refine wpAny_bind (wpAny_rule ?_)
  refine wpAny_bind (wpAny_field hz rfl (x := .ref TO) rfl ?_)
  refine wpAny_bind (wpAny_setField_rec hz (by simp) fun g1 z1 s1 => ?_)
  replace z1 : IsZS g1 z TI TO .ellipsis := z1
  refine wpAny_bind ?_
  simp only [List.zipIdx_cons, List.zipIdx_nil, List.forIn_cons, List.forIn_nil]
  refine wpAny_bind (wpAny_bind (wpAny_onRaise ?_))
  show wpAny _ _ (Builtin.SmallTypes.nextOrEnd (.ref i1)) _ _ _
  refine orEnd_item S (S.itx h1 s1.extBut D.i1z) (S.sqx hl1 s1.extBut D.l1z) hx fun g2 i1' s2 => ?_
  have to2 : IsPair g2 TO a b := s2.extBut _ _ D.TOi1 (s1.extBut _ _ D.TOz hTO)
  refine wpAny_bind (wpAny_seqItems to2 rfl ?_)
  refine wpAny_bind (wpAny_updateSeq_pair to2 fun g3 to3 s3 => ?_)
  replace to3 : IsPair g3 TO x b := to3
  refine wpAny_bind (wpAny_letGo (wpAny_pure ?_))
  refine wpAny_bind (wpAny_bind (wpAny_onRaise ?_))
  show wpAny _ _ (Builtin.SmallTypes.nextOrEnd (.ref i2)) _ _ _
  refine orEnd_item S (S.itx (S.itx (S.itx h2 s1.extBut D.i2z) s2.extBut D.i12.symm) s3.extBut D.TOi2.symm)
    (S.sqx (S.sqx (S.sqx hl2 s1.extBut D.l2z) s2.extBut D.l2i1) s3.extBut D.l2TO) hy fun g4 i2' s4 => ?_
  have to4 : IsPair g4 TO x b := s4.extBut _ _ D.TOi2 to3
  refine wpAny_bind (wpAny_seqItems to4 rfl ?_)
  refine wpAny_bind (wpAny_updateSeq_pair to4 fun g5 to5 s5 => ?_)
  replace to5 : IsPair g5 TO x y := to5
  refine wpAny_bind (wpAny_letGo (wpAny_pure (wpAny_pure ?_)))
  refine wpAny_bind (wpAny_seqItems to5 rfl ?_)
  refine wpAny_bind (wpAny_newTuple ?_)
  have hsz : g5.objs.size = s.heap.objs.size := by rw [s5.1, s4.1, s3.1, s2.1, s1.1]
  have z5 : IsZS g5 z TI TO .ellipsis := s5.extBut _ _ D.TOz.symm (s4.extBut _ _ D.i2z.symm (s3.extBut _ _ D.TOz.symm (s2.extBut _ _ D.i1z.symm z1)))
  have k5 : ∀ c o, c ≠ z → c ≠ TO → c ≠ i1 → c ≠ i2 → s.heap.get? c = some o → g5.get? c = some o := fun c o c1 c2 c3 c4 e =>
    s5.extBut _ _ c2 (s4.extBut _ _ c4 (s3.extBut _ _ c2 (s2.extBut _ _ c3 (s1.extBut _ _ c1 e))))
  have i15 : S.it g5 i1 l1 (k + 1) := S.itx (S.itx (S.itx i1' s3.extBut D.TOi1.symm) s4.extBut D.i12) s5.extBut D.TOi1.symm
  have i25 : S.it g5 i2 l2 (k + 1) := S.itx i2' s5.extBut D.TOi2.symm
  have hzlt : z < g5.objs.size := Heap.lt_size z5
  show wpAny _ _ (Builtin.SmallTypes.ownedTupleHandOut (.ref z) (.ref g5.objs.size) >>= _) _ _ _
  refine wpAny_bind ?_
  unfold Builtin.SmallTypes.ownedTupleHandOut
  have z6 : IsZS (g5.push { cls := .type "tuple", data := .seq #[x, y] }) z TI TO .ellipsis := Heap.get?_push_of_some _ z5
  refine wpAny_bind (wpAny_setField_rec z6 (by simp) fun g7 z7 s7 => ?_)
  replace z7 : IsZS g7 z TI TO (rawInt g5.objs.size) := z7
  refine wpAny_setField_rec z7 (by simp) fun g8 z8 s8 => ?_
  replace z8 : IsZS g8 z TI TO (rawInt g5.objs.size) := z8
  have up : ∀ c o, c ≠ z → g5.get? c = some o → g8.get? c = some o := fun c o c1 e => s8.extBut _ _ c1 (s7.extBut _ _ c1 (Heap.get?_push_of_some _ e))
  have t8 : IsPair g8 g5.objs.size x y := s8.extBut _ _ (Nat.ne_of_gt hzlt) (s7.extBut _ _ (Nat.ne_of_gt hzlt) (Heap.get?_push_size _ rfl))
  have n8 : g8.objs.size = g5.objs.size + 1 := by rw [s8.1, s7.1, Heap.size_push]
  rw [hsz] at z8 t8 n8
  refine wpAny_pure ⟨_, rfl, ?_⟩
  show Q (.ref g5.objs.size) _
  rw [hsz]
  exact hQ g8 z8 (up _ _ D.TOz to5) (S.ita i15 fun o e => up _ o D.i1z e) (S.ita i25 fun o e => up _ o D.i2z e) t8 n8 fun c o c1 c2 c3 c4 e => up c o c1 (k5 c o c1 c2 c3 c4 e)
theorem next_over {z TI TO i1 i2 l1 l2 : Addr} {k : Nat} {xs ys : Array Value} {a b : Value} {Q : Fin → Shared → Prop} (hh : A.handled = none) (D : ZipApart z TI TO i1 i2 l1 l2)
    (hz : IsZS s.heap z TI TO .none) (hTI : IsPair s.heap TI (.ref i1) (.ref i2)) (hTO : IsPair s.heap TO a b)
    (h1 : S.it s.heap i1 l1 k) (h2 : S.it s.heap i2 l2 k) (hl1 : S.sq s.heap l1 xs) (hl2 : S.sq s.heap l2 ys) (hx : xs[k]? = none) (hy : ys[k]? = none)
    (hE : ∀ h' e, (∀ c o, c ≠ z → c ≠ TO → c ≠ i1 → c ≠ i2 → s.heap.get? c = some o → h'.get? c = some o) → (∃ o, h'.get? e = some o ∧ o.cls = .type "StopIteration") → E (.ref e) { s with heap := h' }) :
    wpAny (model prog w) A (Builtin.«zip.__next__» ⟨[.ref z], []⟩) Q E s := by
  show wpAny _ _ (field (.ref z) 2 >>= _) _ _ _
  refine wpAny_bind (wpAny_field hz rfl (x := .bool true) rfl ?_)
  show wpAny _ _ (field (.ref z) 3 >>= _) _ _ _
  refine wpAny_bind (wpAny_field hz rfl (x := .ref TI) rfl ?_)
  refine wpAny_bind (wpAny_seqItems hTI rfl ?_)
  show wpAny _ _ (Builtin.SmallTypes.ownedTupleIsFree (.ref z) >>= _) _ _ _
  refine wpAny_bind ?_
  unfold Builtin.SmallTypes.ownedTupleIsFree
  refine wpAny_bind (wpAny_field hz rfl (x := .none) rfl (wpAny_pure ?_))
  simp only [if_true]
  refine wpAny_bind (wpAny_rule ?_)
  refine wpAny_bind (wpAny_field hz rfl (x := .ref TO) rfl ?_)
  refine wpAny_bind (wpAny_setField_rec hz (by simp) fun g1 z1 s1 => ?_)
  replace z1 : IsZS g1 z TI TO .ellipsis := z1
  refine wpAny_bind ?_
  simp only [List.zipIdx_cons, List.zipIdx_nil, List.forIn_cons, List.forIn_nil]
  refine wpAny_bind (wpAny_bind (wpAny_onRaise ?_))
  show wpAny _ _ (Builtin.SmallTypes.nextOrEnd (.ref i1)) _ _ _
  refine orEnd_over S hh (S.itx h1 s1.extBut D.i1z) (S.sqx hl1 s1.extBut D.l1z) hx fun g2 s2 => ?_
  have z2 : IsZS g2 z TI TO .ellipsis := s2 _ _ D.i1z.symm z1
  refine wpAny_bind (wpAny_setField_rec z2 (by simp) fun g3 z3 s3 => wpAny_bind ?_)
  show wpAny _ _ (forIn [(Value.ref i2, 1)] PUnit.unit _ >>= _) _ _ _
  refine wpAny_bind ?_
  simp only [List.forIn_cons, List.forIn_nil]
  refine wpAny_bind (wpAny_bind (orEnd_over S hh (S.itx (S.itx (S.itx h2 s1.extBut D.i2z) s2 D.i12.symm) s3.extBut D.i2z) (S.sqx (S.sqx (S.sqx hl2 s1.extBut D.l2z) s2 D.l2i1) s3.extBut D.l2z) hy fun g4 s4 => ?_))
  simp only [Option.isSome_none, Bool.false_eq_true, if_false]
  refine wpAny_pure (wpAny_pure (wpAny_bind (wpAny_rule ?_)))
  show wpAny _ _ (newExc (.type "StopIteration") [] >>= _) _ _ _
  refine wpAny_bind ?_
  simp only [newExc, newTuple]
  refine wpAny_bind (wpAny_newObj_type ?_ (by size_fits))
  refine wpAny_bind (m := firstArgMember _ _) (wpAny_of_eq (a := Value.none) (by first | rfl | (simp only [firstArgMember]; rfl)) ?_)
  refine wpAny_newObj_type ?_ (by size_fits)
  simp only [raiseNew]
  refine wpAny_bind (wpAny_handled ?_)
  first | rw [show A.in1.handled = none from hh] | rw [hh]
  refine wpAny_bind (wpAny_pure (wpAny_throw ?_))
  refine hE _ _ (fun c o c1 c2 c3 c4 e => ?_) ⟨_, Heap.get?_push_size _ rfl, rfl⟩
  exact Heap.get?_push_of_some _ (Heap.get?_push_of_some _ (s4 _ _ c4 (s3.extBut _ _ c1 (s2 _ _ c3 (s1.extBut _ _ c1 e)))))
theorem pyNext_item {z TI TO i1 i2 l1 l2 : Addr} {k : Nat} {xs ys : Array Value} {x y a b : Value} {Q : Option Value → Shared → Prop} (D : ZipApart z TI TO i1 i2 l1 l2)
    (hz : IsZS s.heap z TI TO .none) (hTI : IsPair s.heap TI (.ref i1) (.ref i2)) (hTO : IsPair s.heap TO a b)
    (h1 : S.it s.heap i1 l1 k) (h2 : S.it s.heap i2 l2 k) (hl1 : S.sq s.heap l1 xs) (hl2 : S.sq s.heap l2 ys) (hx : xs[k]? = some x) (hy : ys[k]? = some y)
    (hQ : ∀ h', IsZS h' z TI TO (rawInt s.heap.objs.size) → IsPair h' TO x y → S.it h' i1 l1 (k + 1) → S.it h' i2 l2 (k + 1) → IsPair h' s.heap.objs.size x y → h'.objs.size = s.heap.objs.size + 1 →
      (∀ c o, c ≠ z → c ≠ TO → c ≠ i1 → c ≠ i2 → s.heap.get? c = some o → h'.get? c = some o) → Q (some (.ref s.heap.objs.size)) { s with heap := h' }) :
    wpAny (model prog w) A (pyNext (.ref z)) Q E s := by
  have hT : s.TypeIs (.ref z) "zip" := ⟨_, hz, rfl⟩
  unfold pyNext
  refine wpAny_bind (wpAny_attempt (wpAny_callSpecial?_slot (name := Str.ofString "__next__") hT F.slot_zip_next (wpAny_call_entry F.slot_zip_next hT F.entry_zip_next ?_ (F.args_zip_next_1 _))))
  exact next_item S D hz hTI hTO h1 h2 hl1 hl2 hx hy fun h' a1 a2 a3 a4 a5 a6 a7 => wpAny_pure (hQ h' a1 a2 a3 a4 a5 a6 a7)
theorem pyNext_over {z TI TO i1 i2 l1 l2 : Addr} {k : Nat} {xs ys : Array Value} {a b : Value} {Q : Option Value → Shared → Prop} (hh : A.handled = none) (D : ZipApart z TI TO i1 i2 l1 l2)
    (hz : IsZS s.heap z TI TO .none) (hTI : IsPair s.heap TI (.ref i1) (.ref i2)) (hTO : IsPair s.heap TO a b)
    (h1 : S.it s.heap i1 l1 k) (h2 : S.it s.heap i2 l2 k) (hl1 : S.sq s.heap l1 xs) (hl2 : S.sq s.heap l2 ys) (hx : xs[k]? = none) (hy : ys[k]? = none)
    (hQ : ∀ h', (∀ c o, c ≠ z → c ≠ TO → c ≠ i1 → c ≠ i2 → s.heap.get? c = some o → h'.get? c = some o) → Q none { s with heap := h' }) : wpAny (model prog w) A (pyNext (.ref z)) Q E s := by
  have hT : s.TypeIs (.ref z) "zip" := ⟨_, hz, rfl⟩
  unfold pyNext
  refine wpAny_bind (wpAny_attempt (wpAny_callSpecial?_slot (name := Str.ofString "__next__") hT F.slot_zip_next (wpAny_call_entry F.slot_zip_next hT F.entry_zip_next ?_ (F.args_zip_next_1 _))))
  refine next_over S hh D hz hTI hTO h1 h2 hl1 hl2 hx hy fun h' e hk he => ?_
  obtain ⟨o, ho, hc⟩ := he
  exact wpAny_bind (wpAny_isInstance (T := "StopIteration") (b := true) ⟨o, ho, hc⟩ isSubtype_stop (wpAny_pure (hQ _ hk)))
omit S in
theorem ownedGo {elts : List Expr} {x1} {pos : Pos} {z TI TO T : Addr} {Q : Unit → Shared → Prop} (hz : IsZS s.heap z TI TO (rawInt T))
    (hQ : ∀ h', IsZS h' z TI TO .none → Heap.SameBut z s.heap h' → Q () { s with heap := h' }) : wpAny (model prog w) A (letOwnedTupleGo (.Tuple elts x1 pos) (.ref z) (.ref T)) Q E s := by
  unfold letOwnedTupleGo
  refine wpAny_bind (wpAny_load hz ?_)
  show wpAny _ _ (if (["enumerate", "zip", "dict_itemiterator", "dict_reverseitemiterator", "odict_iterator", "itertools.zip_longest", "itertools.pairwise"].contains "zip" &&
      (#[rawInt T, .bool false, .bool true, .ref TI, .ref TO] : Array Value)[0]? == some (rawInt T)) = true then _ else _) Q E s
  rw [if_pos (by simp)]
  refine wpAny_bind (wpAny_rule ?_)
  exact wpAny_setField_rec hz (by simp) fun h' hz' hs' => hQ h' hz' hs'
omit S in
theorem iterSelf {z TI TO : Addr} {f0 : Value} {Q : Value → Shared → Prop} (hz : IsZS s.heap z TI TO f0) (h : Q (.ref z) s) : wpAny (model prog w) A (pyIter (.ref z)) Q E s := by
  have hT : s.TypeIs (.ref z) "zip" := ⟨_, hz, rfl⟩
  refine wpAny_pyIter_slot hT F.slot_zip_iter (wpAny_call_entry F.slot_zip_iter hT F.entry_zip_iter ?_ (F.args_zip_iter_1 _))
  exact wpAny_pure ⟨_, rfl, "zip", _, hT, F.slot_zip_next.lookup, h⟩
end
end Zs
/-! Z2: a walk over zip(.., .., strict=True). -/
namespace Zs
open PySem PySem.Spec PyProof.Rows L2
abbrev sKw : List (Str × Value) := [(Str.ofString "strict", .bool true)]
theorem tc_zip (a b : Value) : checkTypeCall "zip" ⟨[a, b], sKw⟩ = pure () := by kernel_rfl
theorem nc_zip (a b : Value) : checkBuiltinCall "zip.__new__" ⟨[.type "zip", a, b], sKw⟩ = pure () := by kernel_rfl
theorem oi_zip (obj a b : Value) : argsOk "object.__init__" ⟨[obj, a, b], sKw⟩ := by unfold argsOk; kernel_rfl
abbrev itObj (T : String) (l : Addr) : Obj := { cls := .type T, data := .fields #[.ref l, .int 0 0] }
abbrev zh2 (T : String) (h : Heap) (l1 l2 : Addr) : Heap := (h.push (itObj T l1)).push (itObj T l2)
abbrev zh4 (T : String) (h : Heap) (l1 l2 : Addr) : Heap := ((zh2 T h l1 l2).push { cls := .type "tuple", data := .seq #[.ref h.objs.size, .ref (h.push (itObj T l1)).objs.size] }).push { cls := .type "tuple", data := .seq #[.none, .none] }
abbrev zh5 (T : String) (h : Heap) (l1 l2 : Addr) : Heap := (zh4 T h l1 l2).push { cls := .type "zip", data := .fields #[.none, .bool false, .bool true, .ref (zh2 T h l1 l2).objs.size, .ref ((zh2 T h l1 l2).push { cls := .type "tuple", data := .seq #[.ref h.objs.size, .ref (h.push (itObj T l1)).objs.size] }).objs.size] }
theorem mkT (l1 l2 : Addr) (xs ys : Array Value) : Meets (Builtin.«zip.__new__» ⟨[.type "zip", .ref l1, .ref l2], sKw⟩) (fun _ R s => s.heap.IsTuple l1 xs ∧ s.heap.IsTuple l2 ys ∧
      R (.ok (.ret (.ref (zh4 "tuple_iterator" s.heap l1 l2).objs.size))) { s with heap := zh5 "tuple_iterator" s.heap l1 l2 }) :=
  .of_wp fun prog w A R s h => by
    obtain ⟨hp, g, d, tk, os⟩ := s; obtain ⟨hl1, hl2, h⟩ := h
    have hsub := sub_zip
    have a1 : Heap.IsTuple (Shared.heap ⟨hp, g, d, tk, os⟩) l1 xs := hl1
    have a2 : Heap.IsTuple (Shared.heap ⟨hp.push { cls := .type "tuple_iterator", data := .fields #[.ref l1, .int 0 0] }, g, d, tk, os⟩) l2 ys := Heap.IsTuple.push hl2 _
    wp_walk using wpAny_pyIter_tuple a1, wpAny_pyIter_tuple a2
    exact ⟨_, rfl, h⟩
theorem mkL (l1 l2 : Addr) (xs ys : Array Value) : Meets (Builtin.«zip.__new__» ⟨[.type "zip", .ref l1, .ref l2], sKw⟩) (fun _ R s => s.heap.IsList l1 xs ∧ s.heap.IsList l2 ys ∧
      R (.ok (.ret (.ref (zh4 "list_iterator" s.heap l1 l2).objs.size))) { s with heap := zh5 "list_iterator" s.heap l1 l2 }) :=
  .of_wp fun prog w A R s h => by
    obtain ⟨hp, g, d, tk, os⟩ := s; obtain ⟨hl1, hl2, h⟩ := h
    have hsub := sub_zip
    have a1 : Heap.IsList (Shared.heap ⟨hp, g, d, tk, os⟩) l1 xs := hl1
    have a2 : Heap.IsList (Shared.heap ⟨hp.push { cls := .type "list_iterator", data := .fields #[.ref l1, .int 0 0] }, g, d, tk, os⟩) l2 ys := Heap.IsList.push hl2 _
    wp_walk using wpAny_pyIter_list a1, wpAny_pyIter_list a2
    exact ⟨_, rfl, h⟩
/-- how a strict zip is made over a kind of sequence -/
structure SKM (S : SK) (T : String) : Prop where
  mkz : ∀ (l1 l2 : Addr) (xs ys : Array Value), Meets (Builtin.«zip.__new__» ⟨[.type "zip", .ref l1, .ref l2], sKw⟩) (fun _ R s => S.sq s.heap l1 xs ∧ S.sq s.heap l2 ys ∧ R (.ok (.ret (.ref (zh4 T s.heap l1 l2).objs.size))) { s with heap := zh5 T s.heap l1 l2 })
  ito : ∀ {h : Heap} {a l : Addr}, h.get? a = some (itObj T l) → S.it h a l 0
theorem skmT : SKM skT "tuple_iterator" := ⟨mkT, fun e => ⟨_, e, rfl, rfl⟩⟩
theorem skmL : SKM skL "list_iterator" := ⟨mkL, fun e => ⟨_, e, rfl, rfl⟩⟩
section
variable {prog : Program} {w : World} {A : Around} {E : Value → Shared → Prop} {s : Shared} {S : SK} {T : String}
theorem call_zs (M : SKM S T) {l1 l2 : Addr} {xs ys : Array Value} {Q : Value → Shared → Prop} (hl1 : S.sq s.heap l1 xs) (hl2 : S.sq s.heap l2 ys)
    (h : ∀ h', IsZS h' (s.heap.objs.size + 4) (s.heap.objs.size + 2) (s.heap.objs.size + 3) .none → IsPair h' (s.heap.objs.size + 2) (.ref s.heap.objs.size) (.ref (s.heap.objs.size + 1)) →
      IsPair h' (s.heap.objs.size + 3) .none .none → S.it h' s.heap.objs.size l1 0 → S.it h' (s.heap.objs.size + 1) l2 0 → h'.objs.size = s.heap.objs.size + 5 →
      (∀ c o, s.heap.get? c = some o → h'.get? c = some o) → Q (.ref (s.heap.objs.size + 4)) { s with heap := h' }) :
    wpAny (model prog w) A (call (.type "zip") [.ref l1, .ref l2] sKw) Q E s := by
  refine callType_newKw F.called_zip (by decide) (tc_zip _ _) (nc_zip _ _) (fun obj => oi_zip obj _ _) F.entry_zip_new (M.mkz l1 l2 xs ys) ⟨hl1, hl2, ?_⟩
  have z1 : (s.heap.push (itObj T l1)).objs.size = s.heap.objs.size + 1 := Heap.size_push ..
  have z2 : (zh2 T s.heap l1 l2).objs.size = s.heap.objs.size + 2 := by rw [Heap.size_push, z1]
  have z3 : ((zh2 T s.heap l1 l2).push { cls := .type "tuple", data := .seq #[.ref s.heap.objs.size, .ref (s.heap.push (itObj T l1)).objs.size] }).objs.size = s.heap.objs.size + 3 := by rw [Heap.size_push, z2]
  have z4 : (zh4 T s.heap l1 l2).objs.size = s.heap.objs.size + 4 := by rw [Heap.size_push, z3]
  have z5 : (zh5 T s.heap l1 l2).objs.size = s.heap.objs.size + 5 := by rw [Heap.size_push, z4]
  have g5 : (zh5 T s.heap l1 l2).get? (zh4 T s.heap l1 l2).objs.size = some _ := Heap.get?_push_size _ rfl
  have g4 : (zh5 T s.heap l1 l2).get? ((zh2 T s.heap l1 l2).push { cls := .type "tuple", data := .seq #[.ref s.heap.objs.size, .ref (s.heap.push (itObj T l1)).objs.size] }).objs.size = some _ := Heap.get?_push_of_some _ (Heap.get?_push_size _ rfl)
  have g3 : (zh5 T s.heap l1 l2).get? (zh2 T s.heap l1 l2).objs.size = some _ := Heap.get?_push_of_some _ (Heap.get?_push_of_some _ (Heap.get?_push_size _ rfl))
  have g2 : (zh5 T s.heap l1 l2).get? (s.heap.push (itObj T l1)).objs.size = some (itObj T l2) := Heap.get?_push_of_some _ (Heap.get?_push_of_some _ (Heap.get?_push_of_some _ (Heap.get?_push_size _ rfl)))
  have g1 : (zh5 T s.heap l1 l2).get? s.heap.objs.size = some (itObj T l1) := Heap.get?_push_of_some _ (Heap.get?_push_of_some _ (Heap.get?_push_of_some _ (Heap.get?_push_of_some _ (Heap.get?_push_size _ rfl))))
  show _ ∧ _
  rw [z2, z3, z4] at g5
  rw [z1, z2] at g3
  rw [z3] at g4
  rw [z1] at g2
  rw [z4]
  exact ⟨⟨_, g5, rfl⟩, h _ g5 g3 g4 (M.ito g1) (M.ito g2) z5 fun c o x =>
    Heap.get?_push_of_some _ (Heap.get?_push_of_some _ (Heap.get?_push_of_some _ (Heap.get?_push_of_some _ (Heap.get?_push_of_some _ x))))⟩
end
/-- callWith of a type, with keywords -/
theorem cw_kw {M : Model} {A : Around} {E : Value → Shared → Prop} {s : Shared} {env : Env} {pos : Pos} {T : String} {e : Expr} {rest : List Expr} {kws : List Keyword} {Q : Value → Shared → Prop}
    (h : wpAny M A (spliced (backTo pos (starEach (e :: rest) env))) (fun vs s₁ => wpAny M A (evalAll ((backToKw pos (keywordEach kws env)).map (·.2)))
      (fun kvs s₂ => wpAny M A (call (.type T) vs (((backToKw pos (keywordEach kws env)).filterMap (·.1)).zip kvs)) Q E s₂) E s₁) E s)
    (he : starEach (e :: rest) env = (false, eval e env) :: starEach rest env) (hplain : (backTo pos (starEach (e :: rest) env)).any (·.1) = false)
    (hall : (backToKw pos (keywordEach kws env)).all (·.1.isSome) = true) (hkw : (backToKw pos (keywordEach kws env)).any (·.1.isNone) = false) :
    wpAny M A (callWith pos (.type T) [] (backTo pos (starEach (e :: rest) env)) (backToKw pos (keywordEach kws env))) Q E s := by
  unfold callWith
  refine wpAny_bind (wpAny_holding (wpAny_mono (evalArgs_kw2 (Q := fun a s₁ => wpAny M A (call (.type T) ([] ++ a.pos) a.kw) Q E s₁) hall h he) (fun a s₁ h₁ => wpAny_bind (wpAny_standAt ?_)) fun _ _ x => x))
  simp only [hplain, hkw, Bool.or_false]
  refine wpAny_bind (wpAny_pure ?_)
  exact wpAny_bind (wpAny_mono h₁ (fun r s₂ hr => wpAny_bind (wpAny_holding (wpAny_point (wpAny_pure hr)))) fun _ _ x => x)
/-- what such a zip has at each turn -/
def ItS (G : Hp → Addr → List V → Prop) (a b : Addr) : It :=
  ⟨fun i H => ∃ (xs ys : List V) (x y : V), G H a xs ∧ G H b ys ∧ xs[i]? = some x ∧ ys[i]? = some y,
    fun i H v H' => ∃ T x y, v = .ref T ∧ H T = none ∧ H' = upd H T (.tup [x, y]) ∧ (∀ xs, G H a xs → xs[i]? = some x) ∧ ∀ ys, G H b ys → ys[i]? = some y,
    fun i H => ∃ xs ys : List V, G H a xs ∧ G H b ys ∧ xs.length ≤ i ∧ ys.length ≤ i⟩
/-- the layer's sequences of a kind -/
structure SKG (S : SK) (G : PySem.W.Frag → Hp → Addr → List V → Prop) : Prop where
  get : ∀ {X : Cx} {pins : List (Addr × Obj)} {s : Shared} {σ : L2.St} {H : Hp} {a : Addr} {xs : List V}, Inv X pins σ H s → G X.K H a xs → ∃ its, Vals xs its ∧ S.sq s.heap a its.toArray ∧ a < s.heap.objs.size
  inj : ∀ {X : Cx} {pins : List (Addr × Obj)} {s : Shared} {σ : L2.St} {H : Hp} {a : Addr} {xs ys : List V}, Inv X pins σ H s → G X.K H a xs → G X.K H a ys → xs = ys
theorem skgT : SKG skT SqT := ⟨fun I h => by
  obtain ⟨its, rv, p, _⟩ := I.tuple h
  obtain ⟨o, ho, _⟩ := id p
  exact ⟨its, rv, p, Heap.lt_size ho⟩, fun I h1 h2 => I.tuple_inj h1 h2⟩
theorem skgL : SKG skL SqL := ⟨fun I h => by
  obtain ⟨its, rv, p, _⟩ := I.list h
  exact ⟨its, rv, p.isList, p.lt⟩, fun I h1 h2 => I.list_inj h1 h2⟩
theorem turnS {S : SK} {G : PySem.W.Frag → Hp → Addr → List V → Prop} (g : SKG S G) {P : Program} {w : World} {K : PySem.W.Frag} {elts : List Expr} {kk : Nat} {tpos : Pos} {a b z TI TO i1 i2 : Addr} (D : ZipApart z TI TO i1 i2 a b) :
    Turn P w K (.Tuple elts kk tpos) (ItS (G K) a b) [z, TI, TO, i1, i2] z (fun i h => IsZS h z TI TO .none ∧ IsPair h TI (.ref i1) (.ref i2) ∧ (∃ x y, IsPair h TO x y) ∧ S.it h i1 a i ∧ S.it h i2 b i) where
  mem := by simp
  obj := fun i h st c hc => by
    obtain ⟨hz, hTI, ⟨x, y, hTO⟩, j1, j2⟩ := st
    obtain ⟨o1, f1, e1, d1⟩ := S.itg j1
    obtain ⟨o2, f2, e2, d2⟩ := S.itg j2
    have e' : c = z ∨ c = TI ∨ c = TO ∨ c = i1 ∨ c = i2 := by simpa using hc
    rcases e' with q | q | q | q | q <;> rw [q]
    · exact ⟨_, hz, fun v q => nomatch q⟩
    · exact ⟨_, hTI, fun v q => nomatch q⟩
    · exact ⟨_, hTO, fun v q => nomatch q⟩
    · exact ⟨o1, e1, fun v q => by rw [d1] at q; cases q⟩
    · exact ⟨o2, e2, fun v q => by rw [d2] at q; cases q⟩
  keep := fun i h h' st k => by
    obtain ⟨hz, hTI, ⟨x, y, hTO⟩, h1, h2⟩ := st
    exact ⟨k z (by simp) _ hz, k TI (by simp) _ hTI, ⟨x, y, k TO (by simp) _ hTO⟩, S.ita h1 fun o q => k i1 (by simp) o q, S.ita h2 fun o q => k i2 (by simp) o q⟩
  item := by
    intro X hP hw hK hc i pins s σ H E I hf st hg
    subst hP hw hK
    obtain ⟨hz, hTI, ⟨x0, y0, hTO⟩, h1, h2⟩ := st
    obtain ⟨xs, ys, x, y, hqx, hqy, hx, hy⟩ := hg
    obtain ⟨its, rv, p, _⟩ := g.get I hqx
    obtain ⟨its2, rv2, p2, _⟩ := g.get I hqy
    obtain ⟨u, hu, ru⟩ := rv.get hx
    obtain ⟨u2, hu2, ru2⟩ := rv2.get hy
    have hzl : z < s.heap.objs.size := Heap.lt_size hz
    refine pyNext_item S D hz hTI hTO h1 h2 p p2 (x := u) (y := u2) (by simpa using hu) (by simpa using hu2) fun h' z' TO' h1' h2' hT hsz hk => ?_
    refine ⟨_, rfl, ownedGo (s := { s with heap := h' }) z' fun h'' z'' sb => ?_⟩
    have hT2 : h''.get? s.heap.objs.size = some { cls := .type "tuple", data := .seq #[u, u2] } := (sb.2 _ (Nat.ne_of_gt hzl)).trans hT
    have new : ObjOk X.prog X.w (upd H s.heap.objs.size (.tup [x, y])) h'' s.heap.objs.size (.tup [x, y]) := ⟨by show 2 ≤ sizeLine; decide, [u, u2], .cons ru (.cons ru2 .nil), ⟨_, hT2, rfl, _, rfl⟩⟩
    have nm : ∀ {c}, c ∉ [z, TI, TO, i1, i2] → c ≠ z ∧ c ≠ TO ∧ c ≠ i1 ∧ c ≠ i2 := fun {c} hb => ⟨fun q => hb (by simp [q]), fun q => hb (by simp [q]), fun q => hb (by simp [q]), fun q => hb (by simp [q])⟩
    have I1 : Inv X pins σ (upd H s.heap.objs.size (.tup [x, y])) { s with heap := h'' } :=
      I.turnedNew (t' := s.toks) (ch := [z, TI, TO, i1, i2]) (fun c o hb q => (sb.2 c (nm hb).1).trans (hk c o (nm hb).1 (nm hb).2.1 (nm hb).2.2.1 (nm hb).2.2.2 q)) hf (Nat.le_refl _) new
    refine ⟨.ref s.heap.objs.size, _, I1, rfl, ⟨_, x, y, rfl, I.hok.fresh (Nat.le_refl _), rfl, fun l hl => by rw [g.inj I hl hqx]; exact hx, fun l hl => by rw [g.inj I hl hqy]; exact hy⟩, ⟨z'', ?_, ⟨u, u2, ?_⟩, ?_, ?_⟩, fun c hcm => ?_⟩
    · exact (sb.2 _ D.TIz).trans (hk _ _ D.TIz D.TITO D.TIi1 D.TIi2 hTI)
    · exact (sb.2 _ D.TOz).trans TO'
    · exact S.ita h1' fun o q => (sb.2 _ D.i1z).trans q
    · exact S.ita h2' fun o q => (sb.2 _ D.i2z).trans q
    · have hlt : c < s.heap.objs.size := by
        have e' : c = z ∨ c = TI ∨ c = TO ∨ c = i1 ∨ c = i2 := by simpa using hcm
        obtain ⟨_, _, e1, _⟩ := S.itg h1
        obtain ⟨_, _, e2, _⟩ := S.itg h2
        rcases e' with q | q | q | q | q <;> rw [q]
        · exact hzl
        · exact Heap.lt_size hTI
        · exact Heap.lt_size hTO
        · exact Heap.lt_size e1
        · exact Heap.lt_size e2
      rw [upd_ne (Nat.ne_of_lt hlt)]
      exact (hf c hcm).1
  done := by
    intro X hP hw hK hc i pins s σ H E I hf st hg
    subst hP hw hK
    obtain ⟨hz, hTI, ⟨x0, y0, hTO⟩, h1, h2⟩ := st
    obtain ⟨xs, ys, hqx, hqy, e1, e2⟩ := hg
    obtain ⟨its, rv, p, _⟩ := g.get I hqx
    obtain ⟨its2, rv2, p2, _⟩ := g.get I hqy
    have l1 := rv.length
    have l2 := rv2.length
    exact pyNext_over S (I.ok.hd hc) D hz hTI hTO h1 h2 p p2 (by simp; omega) (by simp; omega) fun h' hk => ⟨rfl, I.turnedL (t' := s.toks) (ch := [z, TI, TO, i1, i2]) (fun c o hb q =>
      hk c o (fun q' => hb (by simp [q'])) (fun q' => hb (by simp [q'])) (fun q' => hb (by simp [q'])) (fun q' => hb (by simp [q'])) q) hf⟩
  self := fun A i s Q E st h => iterSelf st.1 h
def iZipS (K : PySem.W.Frag) (ta : TA) : TI := fun σ H R => ta σ H fun vs H1 => ∃ a b xs ys, vs = [.ref a, .ref b] ∧ ((SqL K H1 a xs ∧ SqL K H1 b ys ∧ R (ItS (SqL K) a b) H1) ∨ (SqT K H1 a xs ∧ SqT K H1 b ys ∧ R (ItS (SqT K) a b) H1))
theorem pi_zipS {X : Cx} {e e2 : Expr} {ta : TA} {p pos tpos kp cp : Pos} {elts : List Expr} {kk ck : Nat} (hg : Gl X "zip") (hm : X.mg "zip" = none) (ha : PA X [e, e2] ta)
    (hs : starEach [e, e2] X.env = (false, eval e X.env) :: starEach [e2] X.env) (hpl : (backTo pos (starEach [e, e2] X.env)).any (·.1) = false) :
    PI X (.Tuple elts kk tpos) (.Call (.Name "zip" p) [e, e2] [⟨some (Str.ofString "strict"), .Constant (.bool true) ck cp, kp⟩] pos) (iZipS X.K ta) := by
  refine ⟨fun pins s σ H R I h => ?_⟩
  have hk : PK X [⟨some (Str.ofString "strict"), .Constant (.bool true) ck cp, kp⟩] (tCons (tC (.bl true)) tNil) := pk_cons pe_bl pk_nil
  refine wpAny_Call_Name_kw (ld_blt I hg hm PyProof.Rows.boot_zip (cw_kw (thn (ha.run pos pins s σ H _ I h) fun us s0 ⟨vs, H1, I0, r1, q1⟩ => thn (hk.run pos pins s0 σ H1 (fun zs G => zs = [.bl true] ∧ G = H1) I0 ⟨rfl, rfl⟩) fun ws s1 ⟨zs, G1, I1, rz, ez, eg⟩ => ?_) hs hpl rfl rfl))
  subst ez eg
  obtain ⟨a, b, xs, ys, ex, q1⟩ := q1
  subst ex
  cases rz with
  | cons rz0 rz1 =>
  cases rz1
  cases rz0
  cases r1 with
  | cons r rr =>
  cases rr with
  | cons r' rr =>
  cases rr
  cases r
  cases r'
  have fresh5 : ∀ c, c ∈ [s1.heap.objs.size + 4, s1.heap.objs.size + 2, s1.heap.objs.size + 3, s1.heap.objs.size, s1.heap.objs.size + 1] → FpOk X pins G1 c := fun c hcm => by
    have hle : s1.heap.objs.size ≤ c := by
      have e' : c = s1.heap.objs.size + 4 ∨ c = s1.heap.objs.size + 2 ∨ c = s1.heap.objs.size + 3 ∨ c = s1.heap.objs.size ∨ c = s1.heap.objs.size + 1 := by simpa using hcm
      omega
    exact I1.fpOk hle (I1.hok.fresh hle)
  rcases q1 with ⟨hqx, hqy, q⟩ | ⟨hqx, hqy, q⟩
  · obtain ⟨its, rv, p1, lt1⟩ := skgL.get I1 hqx
    obtain ⟨its2, rv2, p2, lt2⟩ := skgL.get I1 hqy
    refine call_zs skmL p1 p2 fun h' hz hTI hTO h1 h2 hsz hk => iterSelf hz ?_
    have I2 : Inv X pins σ G1 { s1 with heap := h' } := I1.kept (t' := s1.toks) hk
    exact ⟨s1.heap.objs.size + 4, [s1.heap.objs.size + 4, s1.heap.objs.size + 2, s1.heap.objs.size + 3, s1.heap.objs.size, s1.heap.objs.size + 1], _, _, G1, rfl, I2, turnS skgL (PySem.W.ktu_apart s1.heap.objs.size a b lt1 lt2), ⟨hz, hTI, ⟨_, _, hTO⟩, h1, h2⟩, fresh5, q⟩
  · obtain ⟨its, rv, p1, lt1⟩ := skgT.get I1 hqx
    obtain ⟨its2, rv2, p2, lt2⟩ := skgT.get I1 hqy
    refine call_zs skmT p1 p2 fun h' hz hTI hTO h1 h2 hsz hk => iterSelf hz ?_
    have I2 : Inv X pins σ G1 { s1 with heap := h' } := I1.kept (t' := s1.toks) hk
    exact ⟨s1.heap.objs.size + 4, [s1.heap.objs.size + 4, s1.heap.objs.size + 2, s1.heap.objs.size + 3, s1.heap.objs.size, s1.heap.objs.size + 1], _, _, G1, rfl, I2, turnS skgT (PySem.W.ktu_apart s1.heap.objs.size a b lt1 lt2), ⟨hz, hTI, ⟨_, _, hTO⟩, h1, h2⟩, fresh5, q⟩
end Zs
/-! Z3: dict(zip(.., .., strict=True)). -/
namespace Zs
open PySem PySem.Spec PyProof.Rows L2
abbrev IsZH (h : Heap) (z TI TO T : Addr) (f : Bool) : Prop :=
  h.get? z = some { cls := .type "zip", dict := none, data := .fields #[rawInt T, .bool f, .bool true, .ref TI, .ref TO], slots := #[] }
section
variable {prog : Program} {w : World} {A : Around} {E : Value → Shared → Prop} {s : Shared}
theorem held {z TI TO T : Addr} {f : Bool} {oT : Obj} {Q : Bool → Shared → Prop} (hz : IsZH s.heap z TI TO T f) (hT : s.heap.get? T = some oT)
    (h : ∀ h', IsZH h' z TI TO T true → Heap.SameBut z s.heap h' → Q false { s with heap := h' }) : wpAny (model prog w) A (Builtin.SmallTypes.ownedTupleIsFree (.ref z)) Q E s := by
  unfold Builtin.SmallTypes.ownedTupleIsFree
  refine wpAny_bind (wpAny_field hz rfl (x := rawInt T) rfl ?_)
  show wpAny _ _ (loadIfAlive ((T : Int).toNat) >>= _) _ _ _
  rw [Int.toNat_natCast]
  refine wpAny_bind (PySem.W.kdx_alive hT ?_)
  simp only [Option.isNone_some, Bool.false_eq_true, if_false]
  refine wpAny_bind (wpAny_field hz rfl (x := .bool f) rfl ?_)
  cases f with
  | true =>
    rw [if_neg (show ¬ ((Value.bool true != Value.bool true) = true) from Bool.false_ne_true)]
    exact wpAny_pure (h s.heap hz (Heap.SameBut.refl _ _))
  | false =>
    rw [if_pos (show (Value.bool false != Value.bool true) = true from rfl)]
    exact wpAny_bind (wpAny_setField_rec hz (by simp) fun g1 z1 s1 => wpAny_pure (h g1 z1 s1))
variable (S : SK)
theorem next_itemH {z TI TO T i1 i2 l1 l2 : Addr} {f : Bool} {oT : Obj} {k : Nat} {xs ys : Array Value} {x y : Value} {Q : Value → Shared → Prop} (D : ZipApart z TI TO i1 i2 l1 l2)
    (hz : IsZH s.heap z TI TO T f) (hT : s.heap.get? T = some oT) (hTI : IsPair s.heap TI (.ref i1) (.ref i2))
    (h1 : S.it s.heap i1 l1 k) (h2 : S.it s.heap i2 l2 k) (hl1 : S.sq s.heap l1 xs) (hl2 : S.sq s.heap l2 ys) (hx : xs[k]? = some x) (hy : ys[k]? = some y)
    (hQ : ∀ h', IsZH h' z TI TO T true → S.it h' i1 l1 (k + 1) → S.it h' i2 l2 (k + 1) → IsPair h' s.heap.objs.size x y → h'.objs.size = s.heap.objs.size + 1 →
      (∀ c o, c ≠ z → c ≠ i1 → c ≠ i2 → s.heap.get? c = some o → h'.get? c = some o) → Q (.ref s.heap.objs.size) { s with heap := h' }) :
    wpAny (model prog w) A (Builtin.«zip.__next__» ⟨[.ref z], []⟩) (fun fin s' => ∃ v, fin = .done (.ret v) ∧ Q v s') E s := by
  show wpAny _ _ (field (.ref z) 2 >>= _) _ _ _
  refine wpAny_bind (wpAny_field hz rfl (x := .bool true) rfl ?_)
  show wpAny _ _ (field (.ref z) 3 >>= _) _ _ _
  refine wpAny_bind (wpAny_field hz rfl (x := .ref TI) rfl ?_)
  refine wpAny_bind (wpAny_seqItems hTI rfl ?_)
  show wpAny _ _ (Builtin.SmallTypes.ownedTupleIsFree (.ref z) >>= _) _ _ _
  refine wpAny_bind (held hz hT fun g1 z1 s1 => ?_)
  simp only [Bool.false_eq_true, if_false]
  refine wpAny_bind ?_
  rw [← Array.forIn_toList]
  simp only [List.forIn_cons, List.forIn_nil]
  refine wpAny_bind (wpAny_bind (wpAny_holding ?_))
  show wpAny _ _ (Builtin.SmallTypes.nextOrEnd (.ref i1)) _ _ _
  refine orEnd_item S (s := { s with heap := g1 }) (S.itx h1 s1.extBut D.i1z) (S.sqx hl1 s1.extBut D.l1z) hx fun g2 i1' s2 => wpAny_pure ?_
  refine wpAny_bind (wpAny_bind (wpAny_holding ?_))
  show wpAny _ _ (Builtin.SmallTypes.nextOrEnd (.ref i2)) _ _ _
  refine orEnd_item S (s := { s with heap := g2 }) (S.itx (S.itx h2 s1.extBut D.i2z) s2.extBut D.i12.symm) (S.sqx (S.sqx hl2 s1.extBut D.l2z) s2.extBut D.l2i1) hy fun g3 i2' s3 => wpAny_pure ?_
  refine wpAny_pure ?_
  show wpAny _ _ (newTuple [x, y] >>= _) _ _ _
  refine wpAny_bind (wpAny_newTuple ?_)
  have hsz : g3.objs.size = s.heap.objs.size := by rw [s3.1, s2.1, s1.1]
  have z3 : IsZH g3 z TI TO T true := s3.extBut _ _ D.i2z.symm (s2.extBut _ _ D.i1z.symm z1)
  have hk : ∀ c o, c ≠ z → c ≠ i1 → c ≠ i2 → s.heap.get? c = some o → g3.get? c = some o := fun c o c1 c2 c3 e => s3.extBut _ _ c3 (s2.extBut _ _ c2 (s1.extBut _ _ c1 e))
  have i13 : S.it g3 i1 l1 (k + 1) := S.itx i1' s3.extBut D.i12
  refine wpAny_pure ⟨_, rfl, ?_⟩
  show Q (.ref g3.objs.size) _
  have hp : IsPair (g3.push { cls := .type "tuple", data := .seq #[x, y] }) g3.objs.size x y := Heap.get?_push_size _ rfl
  have n4 : (g3.push { cls := .type "tuple", data := .seq #[x, y] }).objs.size = g3.objs.size + 1 := Heap.size_push ..
  rw [hsz] at hp n4 ⊢
  exact hQ _ (Heap.get?_push_of_some _ z3) (S.ita i13 fun o e => Heap.get?_push_of_some _ e) (S.ita i2' fun o e => Heap.get?_push_of_some _ e) hp n4 fun c o c1 c2 c3 e => Heap.get?_push_of_some _ (hk c o c1 c2 c3 e)
theorem next_overH {z TI TO T i1 i2 l1 l2 : Addr} {f : Bool} {oT : Obj} {k : Nat} {xs ys : Array Value} {Q : Fin → Shared → Prop} (hh : A.handled = none) (D : ZipApart z TI TO i1 i2 l1 l2)
    (hz : IsZH s.heap z TI TO T f) (hT : s.heap.get? T = some oT) (hTI : IsPair s.heap TI (.ref i1) (.ref i2))
    (h1 : S.it s.heap i1 l1 k) (h2 : S.it s.heap i2 l2 k) (hl1 : S.sq s.heap l1 xs) (hl2 : S.sq s.heap l2 ys) (hx : xs[k]? = none) (hy : ys[k]? = none)
    (hE : ∀ h' e, (∀ c o, c ≠ z → c ≠ i1 → c ≠ i2 → s.heap.get? c = some o → h'.get? c = some o) → (∃ o, h'.get? e = some o ∧ o.cls = .type "StopIteration") → E (.ref e) { s with heap := h' }) :
    wpAny (model prog w) A (Builtin.«zip.__next__» ⟨[.ref z], []⟩) Q E s := by
  show wpAny _ _ (field (.ref z) 2 >>= _) _ _ _
  refine wpAny_bind (wpAny_field hz rfl (x := .bool true) rfl ?_)
  show wpAny _ _ (field (.ref z) 3 >>= _) _ _ _
  refine wpAny_bind (wpAny_field hz rfl (x := .ref TI) rfl ?_)
  refine wpAny_bind (wpAny_seqItems hTI rfl ?_)
  show wpAny _ _ (Builtin.SmallTypes.ownedTupleIsFree (.ref z) >>= _) _ _ _
  refine wpAny_bind (held hz hT fun g1 z1 s1 => ?_)
  simp only [Bool.false_eq_true, if_false]
  refine wpAny_bind ?_
  rw [← Array.forIn_toList]
  simp only [List.forIn_cons, List.forIn_nil]
  refine wpAny_bind (wpAny_bind (wpAny_holding ?_))
  show wpAny _ _ (Builtin.SmallTypes.nextOrEnd (.ref i1)) _ _ _
  refine orEnd_over S (s := { s with heap := g1 }) hh (S.itx h1 s1.extBut D.i1z) (S.sqx hl1 s1.extBut D.l1z) hx fun g2 s2 => wpAny_bind ?_
  show wpAny _ _ (forIn [(Value.ref i2, 1)] PUnit.unit _ >>= _) _ _ _
  refine wpAny_bind ?_
  simp only [List.forIn_cons, List.forIn_nil]
  refine wpAny_bind (wpAny_bind (orEnd_over S hh (S.itx (S.itx h2 s1.extBut D.i2z) s2 D.i12.symm) (S.sqx (S.sqx hl2 s1.extBut D.l2z) s2 D.l2i1) hy fun g4 s4 => ?_))
  simp only [Option.isSome_none, Bool.false_eq_true, if_false]
  refine wpAny_pure (wpAny_pure (wpAny_bind (wpAny_rule ?_)))
  show wpAny _ _ (newExc (.type "StopIteration") [] >>= _) _ _ _
  refine wpAny_bind ?_
  simp only [newExc, newTuple]
  refine wpAny_bind (wpAny_newObj_type ?_ (by size_fits))
  refine wpAny_bind (m := firstArgMember _ _) (wpAny_of_eq (a := Value.none) (by first | rfl | (simp only [firstArgMember]; rfl)) ?_)
  refine wpAny_newObj_type ?_ (by size_fits)
  simp only [raiseNew]
  refine wpAny_bind (wpAny_handled ?_)
  first | rw [show A.in1.handled = none from hh] | rw [hh]
  refine wpAny_bind (wpAny_pure (wpAny_throw ?_))
  refine hE _ _ (fun c o c1 c3 c4 e => ?_) ⟨_, Heap.get?_push_size _ rfl, rfl⟩
  exact Heap.get?_push_of_some _ (Heap.get?_push_of_some _ (s4 _ _ c4 (s2 _ _ c3 (s1.extBut _ _ c1 e))))
theorem pyNext_itemH {z TI TO T i1 i2 l1 l2 : Addr} {f : Bool} {oT : Obj} {k : Nat} {xs ys : Array Value} {x y : Value} {Q : Option Value → Shared → Prop} (D : ZipApart z TI TO i1 i2 l1 l2)
    (hz : IsZH s.heap z TI TO T f) (hT : s.heap.get? T = some oT) (hTI : IsPair s.heap TI (.ref i1) (.ref i2))
    (h1 : S.it s.heap i1 l1 k) (h2 : S.it s.heap i2 l2 k) (hl1 : S.sq s.heap l1 xs) (hl2 : S.sq s.heap l2 ys) (hx : xs[k]? = some x) (hy : ys[k]? = some y)
    (hQ : ∀ h', IsZH h' z TI TO T true → S.it h' i1 l1 (k + 1) → S.it h' i2 l2 (k + 1) → IsPair h' s.heap.objs.size x y → h'.objs.size = s.heap.objs.size + 1 →
      (∀ c o, c ≠ z → c ≠ i1 → c ≠ i2 → s.heap.get? c = some o → h'.get? c = some o) → Q (some (.ref s.heap.objs.size)) { s with heap := h' }) : wpAny (model prog w) A (pyNext (.ref z)) Q E s := by
  have hTy : s.TypeIs (.ref z) "zip" := ⟨_, hz, rfl⟩
  unfold pyNext
  refine wpAny_bind (wpAny_attempt (wpAny_callSpecial?_slot (name := Str.ofString "__next__") hTy F.slot_zip_next (wpAny_call_entry F.slot_zip_next hTy F.entry_zip_next ?_ (F.args_zip_next_1 _))))
  exact next_itemH S D hz hT hTI h1 h2 hl1 hl2 hx hy fun h' a1 a3 a4 a5 a6 a7 => wpAny_pure (hQ h' a1 a3 a4 a5 a6 a7)
theorem pyNext_overH {z TI TO T i1 i2 l1 l2 : Addr} {f : Bool} {oT : Obj} {k : Nat} {xs ys : Array Value} {Q : Option Value → Shared → Prop} (hh : A.handled = none) (D : ZipApart z TI TO i1 i2 l1 l2)
    (hz : IsZH s.heap z TI TO T f) (hT : s.heap.get? T = some oT) (hTI : IsPair s.heap TI (.ref i1) (.ref i2))
    (h1 : S.it s.heap i1 l1 k) (h2 : S.it s.heap i2 l2 k) (hl1 : S.sq s.heap l1 xs) (hl2 : S.sq s.heap l2 ys) (hx : xs[k]? = none) (hy : ys[k]? = none)
    (hQ : ∀ h', (∀ c o, c ≠ z → c ≠ i1 → c ≠ i2 → s.heap.get? c = some o → h'.get? c = some o) → Q none { s with heap := h' }) : wpAny (model prog w) A (pyNext (.ref z)) Q E s := by
  have hTy : s.TypeIs (.ref z) "zip" := ⟨_, hz, rfl⟩
  unfold pyNext
  refine wpAny_bind (wpAny_attempt (wpAny_callSpecial?_slot (name := Str.ofString "__next__") hTy F.slot_zip_next (wpAny_call_entry F.slot_zip_next hTy F.entry_zip_next ?_ (F.args_zip_next_1 _))))
  refine next_overH S hh D hz hT hTI h1 h2 hl1 hl2 hx hy fun h' e hk he => ?_
  obtain ⟨o, ho, hc⟩ := he
  exact wpAny_bind (wpAny_isInstance (T := "StopIteration") (b := true) ⟨o, ho, hc⟩ isSubtype_stop (wpAny_pure (hQ _ hk)))
end
section
variable {prog : Program} {w : World}
/-- tuples of one length, zipped, as pairs -/
theorem pairs (z TI TO i1 i2 l1 l2 : Addr) (D : ZipApart z TI TO i1 i2 l1 l2) (xs ys : Array Value) (hxy : xs.size = ys.size) :
    PairArg prog w "zip" z [z, TI, TO, i1, i2, l1, l2] [z, TO, i1, i2] xs.size (fun i k v => xs[i]? = some k ∧ ys[i]? = some v)
      (fun h => IsZS h z TI TO .none ∧ IsPair h TI (.ref i1) (.ref i2) ∧ (∃ a b, IsPair h TO a b) ∧ h.IsTupleIter i1 l1 0 ∧ h.IsTupleIter i2 l2 0 ∧ h.IsTuple l1 xs ∧ h.IsTuple l2 ys) where
  type := fun s ok => ⟨_, ok.1, rfl⟩
  notDict := by decide
  keep := fun h h' ok hk => by
    obtain ⟨hz, hTI, ⟨a, b, hTO⟩, h1, h2, ⟨o3, g3, r3⟩, ⟨o4, g4, r4⟩⟩ := ok
    exact ⟨hk _ _ hz, hk _ _ hTI, ⟨a, b, hk _ _ hTO⟩, h1.at fun o e => hk _ o e, h2.at fun o e => hk _ o e, ⟨o3, hk _ _ g3, r3⟩, ⟨o4, hk _ _ g4, r4⟩⟩
  there := fun h ok b hb => by
    obtain ⟨hz, hTI, ⟨a, c, hTO⟩, ⟨o1, h1, _⟩, ⟨o2, h2, _⟩, ⟨o3, hl1, _⟩, ⟨o4, hl2, _⟩⟩ := ok
    simp only [List.mem_cons, List.not_mem_nil, or_false] at hb
    rcases hb with rfl | rfl | rfl | rfl | rfl | rfl | rfl
    all_goals first | exact ⟨_, hz⟩ | exact ⟨_, hTI⟩ | exact ⟨_, hTO⟩ | exact ⟨_, h1⟩ | exact ⟨_, h2⟩ | exact ⟨_, hl1⟩ | exact ⟨_, hl2⟩
  sub := fun b hb => by simp at hb ⊢; rcases hb with rfl | rfl | rfl | rfl <;> simp
  noKeys := fun A s Q E hA ok h => getAttrOr_miss_zip ok.1 rfl rfl rfl zip_no_keys (by decide +kernel) hA h
  iter := fun A s d Q E hA ok hd hdf h => by
    obtain ⟨hz, hTI, ⟨a, b, hTO⟩, h1, h2, hl1, hl2⟩ := ok
    simp only [List.mem_cons, List.not_mem_nil, or_false, not_or] at hdf
    obtain ⟨dz, dTI, dTO, di1, di2, dl1, dl2⟩ := hdf
    refine iterSelf hz (h z [z, TO, i1, i2] (fun i h => IsPair h TI (.ref i1) (.ref i2) ∧ h.IsTupleIter i1 l1 i ∧ h.IsTupleIter i2 l2 i ∧ h.IsTuple l1 xs ∧ h.IsTuple l2 ys ∧
      ((IsZS h z TI TO .none ∧ ∃ a b, IsPair h TO a b) ∨ ∃ T f oT, IsZH h z TI TO T f ∧ h.get? T = some oT ∧ T ≠ z ∧ T ≠ i1 ∧ T ≠ i2 ∧ T ≠ d)) s.heap s.toks ?_
      ⟨hTI, h1, h2, hl1, hl2, .inl ⟨hz, a, b, hTO⟩⟩ (fun _ _ e => e) fun b hb => .inl hb)
    have at2 : ∀ {h h' : Heap} {l : Addr} {xs : Array Value}, h.IsTuple l xs → (∀ o, h.get? l = some o → h'.get? l = some o) → h'.IsTuple l xs := fun ⟨o, e, r⟩ k => ⟨o, k o e, r⟩
    exact {
      off := fun hm => by
        simp only [List.mem_cons, List.not_mem_nil, or_false] at hm
        rcases hm with e | e | e | e
        · exact dz e
        · exact dTO e
        · exact di1 e
        · exact di2 e
      frame := fun i h₁ h₂ st hk => by
        obtain ⟨hTI, h1, h2, hl1, hl2, hz⟩ := st
        refine ⟨hk _ _ (Ne.symm dTI) hTI, h1.at fun o e => hk _ o (Ne.symm di1) e, h2.at fun o e => hk _ o (Ne.symm di2) e, at2 hl1 fun o e => hk _ o (Ne.symm dl1) e, at2 hl2 fun o e => hk _ o (Ne.symm dl2) e, ?_⟩
        rcases hz with ⟨hz, a, b, hTO⟩ | ⟨T, f, oT, hz, hT, r1, r2, r3, r4⟩
        · exact .inl ⟨hk _ _ (Ne.symm dz) hz, a, b, hk _ _ (Ne.symm dTO) hTO⟩
        · exact .inr ⟨T, f, oT, hk _ _ (Ne.symm dz) hz, hk _ _ r4 hT, r1, r2, r3, r4⟩
      item := fun i s₁ Q₁ E₁ hi st hds hQ => by
        obtain ⟨hTI, h1, h2, hl1, hl2, hz⟩ := st
        have ex := Array.getElem?_eq_getElem hi
        have ey := Array.getElem?_eq_getElem (hxy ▸ hi : i < ys.size)
        have lt : ∀ {c o}, s₁.heap.get? c = some o → s₁.heap.objs.size ≠ c := fun e => Nat.ne_of_gt (Heap.lt_size e)
        have n1 : s₁.heap.objs.size ≠ i1 := let ⟨_, e, _⟩ := h1; lt e
        have n2 : s₁.heap.objs.size ≠ i2 := let ⟨_, e, _⟩ := h2; lt e
        rcases hz with ⟨hz, a, b, hTO⟩ | ⟨T, f, oT, hz, hT, r1, r2, r3, r4⟩
        · refine pyNext_item skT D hz hTI hTO h1 h2 hl1 hl2 ex ey fun h' a1 a2 a3 a4 a5 a6 hk => ?_
          exact hQ s₁.heap.objs.size _ _ h' s₁.toks ⟨ex, ey⟩ (.inl ⟨_, a5, rfl, _, rfl⟩)
            ⟨hk _ _ D.TIz D.TITO D.TIi1 D.TIi2 hTI, a3, a4, at2 hl1 fun o e => hk _ o D.l1z D.l1TO D.l1i1 D.l1i2 e, at2 hl2 fun o e => hk _ o D.l2z D.l2TO D.l2i1 D.l2i2 e,
              .inr ⟨s₁.heap.objs.size, false, _, a1, a5, lt hz, n1, n2, Nat.ne_of_gt hds⟩⟩
            fun c o hc e => hk c o (fun x => hc (by simp [x])) (fun x => hc (by simp [x])) (fun x => hc (by simp [x])) (fun x => hc (by simp [x])) e
        · refine pyNext_itemH skT D hz hT hTI h1 h2 hl1 hl2 ex ey fun h' a1 a3 a4 a5 a6 hk => ?_
          exact hQ s₁.heap.objs.size _ _ h' s₁.toks ⟨ex, ey⟩ (.inl ⟨_, a5, rfl, _, rfl⟩)
            ⟨hk _ _ D.TIz D.TIi1 D.TIi2 hTI, a3, a4, at2 hl1 fun o e => hk _ o D.l1z D.l1i1 D.l1i2 e, at2 hl2 fun o e => hk _ o D.l2z D.l2i1 D.l2i2 e,
              .inr ⟨T, true, oT, a1, hk _ _ r1 r2 r3 hT, r1, r2, r3, r4⟩⟩
            fun c o hc e => hk c o (fun x => hc (by simp [x])) (fun x => hc (by simp [x])) (fun x => hc (by simp [x])) e
      done := fun s₁ Q₁ E₁ st hQ => by
        obtain ⟨hTI, h1, h2, hl1, hl2, hz⟩ := st
        have e1 : xs[xs.size]? = none := by simp
        have e2 : ys[xs.size]? = none := by rw [hxy]; simp
        rcases hz with ⟨hz, a, b, hTO⟩ | ⟨T, f, oT, hz, hT, r1, r2, r3, r4⟩
        · exact pyNext_over skT hA D hz hTI hTO h1 h2 hl1 hl2 e1 e2 fun h' hk => hQ h' s₁.toks fun c o hc e => hk c o (fun x => hc (by simp [x])) (fun x => hc (by simp [x])) (fun x => hc (by simp [x])) (fun x => hc (by simp [x])) e
        · exact pyNext_overH skT hA D hz hT hTI h1 h2 hl1 hl2 e1 e2 fun h' hk => hQ h' s₁.toks fun c o hc e => hk c o (fun x => hc (by simp [x])) (fun x => hc (by simp [x])) (fun x => hc (by simp [x])) e }
end
def tDZip (K : PySem.W.Frag) (ta : TA) : TE := fun σ H Q => ta σ H fun vs H1 => ∃ (a b : Addr) (ks : List Key) (ys : List V), vs = [.ref a, .ref b] ∧ SqT K H1 a (ks.map kV) ∧ SqT K H1 b ys ∧ ks.length = ys.length ∧
  ∀ p, H1 p = none → Q (.ref p) (upd H1 p (.dK (mergeK [] (ks.zip ys))))
theorem kv_zip {P : Program} {w : World} : ∀ {ks : List Key} {ys : List V} {us vs : List Value}, Vals (ks.map kV) us → Vals ys vs → ks.length = ys.length →
    KV (ks.zip ys) (ks.zip vs) ∧ ∀ (i : Nat) k v, us[i]? = some k → vs[i]? = some v → ∃ k', (ks.zip vs)[i]? = some (k', v) ∧ (mixKind P w).is k' k = true
  | [], [], _, _, .nil, .nil, _ => ⟨.nil, fun i k v e => by simp at e⟩
  | [], _ :: _, _, _, _, _, h => by simp at h
  | _ :: _, [], _, _, _, _, h => by simp at h
  | a :: ks, y :: ys, _, _, .cons r rs, .cons q qs, h => by
    obtain ⟨h1, h2⟩ := kv_zip (P := P) (w := w) rs qs (by simpa using h)
    refine ⟨.cons ⟨rfl, q⟩ h1, fun i k v e1 e2 => ?_⟩
    cases i with
    | zero =>
      simp only [List.getElem?_cons_zero, Option.some.injEq] at e1 e2
      subst e1 e2
      exact ⟨a, rfl, kV_is r⟩
    | succ i =>
      obtain ⟨k', e3, e4⟩ := h2 i k v (by simpa using e1) (by simpa using e2)
      exact ⟨k', by simpa using e3, e4⟩
theorem pe_dzip {X : Cx} {e e2 : Expr} {ta : TA} {p p2 pos q kp cp : Pos} {ck : Nat} (hc : X.calm = true) (hg : Gl X "dict") (hm : X.mg "dict" = none) (hg2 : Gl X "zip") (hm2 : X.mg "zip" = none) (ha : PA X [e, e2] ta)
    (hs : starEach [e, e2] X.env = (false, eval e X.env) :: starEach [e2] X.env) (hpl : (backTo q (starEach [e, e2] X.env)).any (·.1) = false) :
    PE X (.Call (.Name "dict" p) [.Call (.Name "zip" p2) [e, e2] [⟨some (Str.ofString "strict"), .Constant (.bool true) ck cp, kp⟩] q] [] pos) (tDZip X.K ta) := by
  refine ⟨fun pins s σ H Q I h => ?_⟩
  have hk : PK X [⟨some (Str.ofString "strict"), .Constant (.bool true) ck cp, kp⟩] (tCons (tC (.bl true)) tNil) := pk_cons pe_bl pk_nil
  refine Call_ (ld_blt I hg hm PyProof.Rows.boot_dict ?_)
  refine PyProof.Rows.callWith_type1 (PyProof.Rows.args_cons ?_ rfl) rfl rfl
  refine wpAny_Call_Name_kw (ld_blt I hg2 hm2 PyProof.Rows.boot_zip (cw_kw (thn (ha.run q pins s σ H _ I h) fun us s0 ⟨vs, H1, I0, r1, q1⟩ => thn (hk.run q pins s0 σ H1 (fun zs G => zs = [.bl true] ∧ G = H1) I0 ⟨rfl, rfl⟩) fun ws s1 ⟨zs, G1, I1, rz, ez, eg⟩ => ?_) hs hpl rfl rfl))
  subst ez eg
  obtain ⟨a, b, ks, ys, ex, hqx, hqy, hlen, q1⟩ := q1
  subst ex
  cases rz with
  | cons rz0 rz1 =>
  cases rz1
  cases rz0
  cases r1 with
  | cons r rr =>
  cases rr with
  | cons r' rr =>
  cases rr
  cases r
  cases r'
  obtain ⟨its, rv, p1, z1⟩ := I1.tuple hqx
  obtain ⟨its2, rv2, p2', z2⟩ := I1.tuple hqy
  obtain ⟨o1, ho1, _⟩ := id p1
  obtain ⟨o2, ho2, _⟩ := id p2'
  refine call_zs skmT (show s1.heap.IsTuple a its.toArray from p1) (show s1.heap.IsTuple b its2.toArray from p2') fun h' hz hTI hTO h1 h2 hsz hkp => PyProof.Rows.args_nil ?_
  have I2 : Inv X pins σ G1 { s1 with heap := h' } := I1.kept (t' := s1.toks) hkp
  have l1 := rv.length
  have l2 := rv2.length
  rw [List.length_map] at l1
  have D := PySem.W.ktu_apart s1.heap.objs.size a b (Heap.lt_size ho1) (Heap.lt_size ho2)
  obtain ⟨kr, kp'⟩ := kv_zip (P := X.prog) (w := X.w) rv rv2 hlen
  have hl1 : h'.IsTuple a its.toArray := by obtain ⟨o, e, r⟩ := p1; exact ⟨o, hkp _ _ e, r⟩
  have hl2 : h'.IsTuple b its2.toArray := by obtain ⟨o, e, r⟩ := p2'; exact ⟨o, hkp _ _ e, r⟩
  refine call_dict_pairs (s := { s1 with heap := h' }) (knd := mixKind X.prog X.w) (kvs := ks.zip its2) (pairs _ _ _ _ _ a b D its.toArray its2.toArray (by simp; omega)) (I2.ok.hd hc) ⟨hz, hTI, ⟨_, _, hTO⟩, h1, h2, hl1, hl2⟩ ⟨by simp; omega, fun i key v rel => ?_⟩ (by rw [List.size_toArray, ← l1, hlen]; exact z2) fun h'' tk hd hk2 => ?_
  · exact kp' i key v (by simpa using rel.1) (by simpa using rel.2)
  · have hmod : (h'.objs.size == sysModules) = false := beq_eq_false_iff_ne.mpr (Nat.ne_of_gt I2.big)
    have hlen2 : (mergeK [] (ks.zip ys)).length ≤ sizeLine := by
      refine Nat.le_trans (length_mergeK _ []) ?_
      rw [List.length_nil, Nat.zero_add, List.length_zip]
      rw [List.length_map] at z1
      exact Nat.le_trans (Nat.min_le_left _ _) z1
    have hkeep : ∀ b o, s1.heap.get? b = some o → h''.get? b = some o := fun c o e => by
      have hlt := Heap.lt_size e
      refine hk2 c o (fun hm => ?_) (hkp c o e)
      have hm' : c = s1.heap.objs.size + 4 ∨ c = s1.heap.objs.size + 3 ∨ c = s1.heap.objs.size ∨ c = s1.heap.objs.size + 1 := by simpa using hm
      rcases hm' with q | q | q | q <;> rw [q] at hlt <;> first | exact Nat.lt_irrefl _ hlt | exact Nat.not_lt.mpr (Nat.le_add_right _ _) hlt
    have hp0 : G1 h'.objs.size = none := I1.hok.fresh (by omega)
    exact ⟨.ref h'.objs.size, upd G1 h'.objs.size (.dK (mergeK [] (ks.zip ys))), I1.laid (t' := tk) hkeep (by omega) (show ObjOk X.prog X.w _ _ _ (.dK (mergeK [] (ks.zip ys))) from ⟨hlen2, hmod, merged [] (ks.zip its2), KV.merge kr .nil, hd⟩), rfl, q1 _ hp0⟩
end Zs
/-! Z4: len(set(xs)) of a list or tuple of texts. -/
namespace Zs
open PySem PySem.Spec PyProof.Rows L2
/-- each once, in the order of the first -/
def ddStep {α : Type} [BEq α] (acc : List α) (x : α) : List α := if acc.any (· == x) then acc else acc ++ [x]
def dd {α : Type} [BEq α] (xs : List α) : List α := xs.foldl ddStep []
theorem dd_snoc {α : Type} [BEq α] (xs : List α) (x : α) : dd (xs ++ [x]) = ddStep (dd xs) x := by
  unfold dd; rw [List.foldl_append]; rfl
theorem ddStep_len {α : Type} [BEq α] (acc : List α) (x : α) : (ddStep acc x).length = if acc.any (· == x) then acc.length else acc.length + 1 := by
  unfold ddStep; split <;> simp
theorem dd_len {α : Type} [BEq α] : ∀ (xs acc : List α), (xs.foldl ddStep acc).length ≤ acc.length + xs.length
  | [], acc => by simp
  | x :: xs, acc => by
    have := dd_len xs (ddStep acc x)
    rw [ddStep_len] at this
    simp only [List.foldl_cons, List.length_cons]
    split at this <;> omega
theorem ddStep_any (acc : List Str) (x k : Str) : (ddStep acc x).any (· == k) = (acc.any (· == k) || decide (k = x)) := by
  unfold ddStep
  by_cases h : acc.any (· == x) = true
  · rw [if_pos h]
    by_cases e : k = x
    · subst e; rw [h]; simp
    · simp [e]
  · rw [if_neg h, List.any_append]
    by_cases e : k = x
    · subst e; simp
    · have hb : (x == k) = false := by simpa [beq_iff_eq] using (fun h' : x = k => e h'.symm)
      simp [hb, e]
theorem take_snoc (xs : List Str) (i : Nat) (h : i < xs.length) : xs.take (i + 1) = xs.take i ++ [xs.getD i Str.empty] := by
  rw [List.take_succ, List.getD_eq_getElem?_getD, List.getElem?_eq_getElem h]; rfl
section
variable {prog : Program} {w : World} {A : Around} {R : Result → Shared → Prop} {I : Addr} {fp wr : List Addr} {G : Array GenState → Array GenState → Prop} {n : Nat} {P : Nat → Value → Prop} {St : Nat → Shared → Prop}
theorem setLoop (W : WalksS prog w A.in1 I fp wr G n P St) (S : Addr) (hSf : S ∉ fp) (xs : List Str) (hsz : xs.length = n) (hn1 : n + 1 < scanBound) (hval : ∀ i v, P i v → ∃ t, v = .str (xs.getD i Str.empty) t) :
    ∀ (k i : Nat) (s : Shared), n - i = k → i ≤ n → St i s → s.heap.SetOf (PySem.strKind prog w) S (fun k' => (dd (xs.take i)).any (· == k')) (dd (xs.take i)).length →
      (∀ s', Moved (S :: wr) G s s' → s'.heap.SetOf (PySem.strKind prog w) S (fun k' => (dd xs).any (· == k')) (dd xs).length → R (.ok (.ret .none)) s') →
      codeAny (model prog w) A (.builtin "set.update.loop" ⟨[.ref S, .ref I], []⟩) R s := by
  have hSw : S ∉ wr := fun h => hSf (W.sub _ h)
  have hsub : ∀ b ∈ wr, b ∈ S :: wr := fun b hb => List.mem_cons_of_mem _ hb
  intro k
  induction k with
  | zero =>
    intro i s hk hi hst hS hR
    have hin : i = n := by omega
    subst hin
    refine codeAny_builtin PyProof.Rows.F.entry_set_update_loop ?_
    rw [Around.under_plainId PyProof.Rows.F.plain_set_update_loop _]
    show wpAny _ A.in1 (pyNext (.ref I) >>= _) _ _ s
    refine wpAny_bind (W.done s _ _ hst fun s' hm => ?_)
    rw [← hsz, List.take_length] at hS
    obtain ⟨o, es, ep, t, ho, rest⟩ := hS
    exact wpAny_pure (hR s' (hm.mono hsub) ⟨o, es, ep, t, hm.heap S _ hSw ho, rest⟩)
  | succ k ih =>
    intro i s hk hi hst hS hR
    have hlt : i < n := by omega
    refine codeAny_builtin PyProof.Rows.F.entry_set_update_loop ?_
    rw [Around.under_plainId PyProof.Rows.F.plain_set_update_loop _]
    show wpAny _ A.in1 (pyNext (.ref I) >>= _) _ _ s
    refine wpAny_bind (W.item i s _ _ hlt hst fun v s' hP hst' hm => ?_)
    obtain ⟨t, rfl⟩ := hval i v hP
    have hS' : s'.heap.SetOf (PySem.strKind prog w) S (fun k' => (dd (xs.take i)).any (· == k')) (dd (xs.take i)).length := by
      obtain ⟨o, es, ep, tb, ho, rest⟩ := hS
      exact ⟨o, es, ep, tb, hm.heap S _ hSw ho, rest⟩
    show wpAny _ A.in1 (holding [Value.str (xs.getD i Str.empty) t] (setAdd S (.str (xs.getD i Str.empty) t)) >>= _) _ _ s'
    refine wpAny_bind (wpAny_holding ?_)
    unfold setAdd
    refine wpAny_holding ?_
    refine wpAny_bind ((PySem.strKind prog w).pyHash (k := xs.getD i Str.empty) (strKind_is _ _ _ _) ?_)
    have hroom : (dd (xs.take i)).length + 1 < scanBound := by
      have := dd_len (xs.take i) []
      rw [List.length_take] at this
      unfold dd
      simp only [List.length_nil] at this
      omega
    refine wpAny_setAddHashed_of (knd := PySem.strKind prog w) (s := { s' with toks := s'.toks + 1 }) (strKind_is _ _ _ _) rfl hS' hroom fun h' hsb hS2 => ?_
    have hSi : h'.SetOf (PySem.strKind prog w) S (fun k' => (dd (xs.take (i + 1))).any (· == k')) (dd (xs.take (i + 1))).length := by
      rw [take_snoc xs i (by omega), dd_snoc]
      exact SetOf_congr hS2 (fun k' => by rw [ddStep_any]) (by rw [ddStep_len])
    refine wpAny_pure ⟨plainId_quiet PyProof.Rows.F.plain_set_update_loop _, ih (i + 1) _ (by omega) hlt (W.frame _ s' _ _ hst' (Nat.le_succ _) fun b hb o e => ?_) hSi fun s'' hm'' hS'' => ?_⟩
    · rw [hsb.2 b (fun h : b = S => hSf (by rw [← h]; exact hb))]; exact e
    · refine hR s'' (Moved.trans W.gtrans ((hm.mono hsub).then_heap (Nat.le_succ _) fun b o hb e => ?_) hm'') hS''
      rw [hsb.2 b (fun h : b = S => hb (by rw [h]; exact List.mem_cons_self))]; exact e
end
section
variable {prog : Program} {w : World} {A : Around} {E : Value → Shared → Prop} {s : Shared}
theorem setL {l : Addr} {items : Array Value} {xs : List Str} {Q : Value → Shared → Prop} (hh : A.handled = none) (hl : s.heap.IsList l items) (hi : PyProof.Rows.StrsAre items.toList xs) (hn1 : xs.length + 1 < scanBound)
    (h : ∀ (h' : Heap) (tk : Nat), h'.SetOf (PySem.strKind prog w) s.heap.objs.size (fun k' => (dd xs).any (· == k')) (dd xs).length → (∀ b o, b < s.heap.objs.size → s.heap.get? b = some o → h'.get? b = some o) → Q (.ref s.heap.objs.size) { s with heap := h', toks := tk }) :
    wpAny (model prog w) A (call (.type "set") [.ref l]) Q E s := by
  obtain ⟨c, tl, hmro⟩ := PySem.F.called_set.mro
  have hmade := PySem.F.called_set.made
  have hsub := PySem.F.called_set.sub
  refine wpAny_call (codeAny_of_tree ?_)
  show wpAny _ _ (callAny (.type "set") _) _ _ _
  refine wpAny_pure ⟨Code.quiet_builtin _ (by decide +kernel), codeAny_builtin PySem.F.entry_type_call ?_⟩
  rw [Around.under_plain (weight_type_call_type "set" [.ref l] []) rfl]
  have h1 := PySem.F.called_set.notType
  have h2 := PySem.F.called_set.canCreate
  have hct := PySem.F.typeCall_set_1 (.ref l)
  repeat (any_goals (first | assumption | wp_step))
  refine codeAny_mono (code_set_new_1 (.ref l) (E := E) (Q₁ := fun obj s₁ => ∃ led : Bool, obj = .ref s.heap.objs.size ∧ s₁ = { s with heap := s.heap.push { cls := .type "set", dict := none, data := .set #[] 0 (.fresh 0 0 led) } }) fun led => ⟨led, rfl, rfl⟩) fun r s₁ hr => ?_
  cases r with
  | error e => exact hr
  | ok fl =>
    cases fl with
    | ret obj =>
      obtain ⟨led, rfl, rfl⟩ := hr
      have hS : (s.heap.push { cls := .type "set", dict := none, data := .set #[] 0 (.fresh 0 0 led) }).get? s.heap.objs.size = some { cls := .type "set", dict := none, data := .set #[] 0 (.fresh 0 0 led) } := Heap.get?_push_size _ rfl
      have hT : Shared.TypeIs { s with heap := s.heap.push { cls := .type "set", dict := none, data := .set #[] 0 (.fresh 0 0 led) } } (.ref s.heap.objs.size) "set" := ⟨_, hS, rfl⟩
      have hli := PySem.F.called_set.init.lookup
      have hbi := PySem.F.called_set.init.bind (.ref s.heap.objs.size)
      repeat (any_goals (first | assumption | wp_step))
      refine codeAny_mono (codeAny_call_builtin (R := wants (fun r s₂ => r = .none ∧ ∃ h' tk, s₂ = { s with heap := h', toks := tk } ∧ h'.SetOf (PySem.strKind prog w) s.heap.objs.size (fun k' => (dd xs).any (· == k')) (dd xs).length ∧
          (∀ b o, b < s.heap.objs.size → s.heap.get? b = some o → h'.get? b = some o)) E) PySem.F.called_set.init.plain PySem.F.entry_set_init (check_set_init_1 hT ?_)) fun r₂ s₂ hr₂ => ?_
      · obtain ⟨ol, hol, hcl, nl, hdl⟩ := hl
        obtain ⟨ocls, odict, odata, oslots⟩ := ol
        simp only at hcl hdl
        subst hcl; subst hdl
        have hol' : (s.heap.push { cls := .type "set", dict := none, data := .set #[] 0 (.fresh 0 0 led) }).get? l = some { cls := .type "list", dict := odict, data := .seq items nl, slots := oslots } := Heap.get?_push_of_some _ hol
        have hsls := PySem.F.sub_list_set
        have hslf := PySem.F.sub_list_frozenset
        have hne : (Value.type "list" == Value.type "dict") = false := by decide
        have hl1 : (s.heap.push { cls := .type "set", dict := none, data := .set #[] 0 (.fresh 0 0 led) }).IsList l items := ⟨_, hol', rfl, nl, rfl⟩
        unfold Builtin.«set.__init__» noKeywords Builtin.Frozenset.updateFrom
        generalize hPI : pyIter = PI
        wp_walk
        subst hPI
        refine wpAny_pyIter_list hl1 ?_
        refine wpAny_bind (wpAny_runValue ?_)
        have hlS : l < s.heap.objs.size := Heap.lt_size hol
        have hh3 : A.in1.in1.in1.handled = none := by simp [hh]
        have hneI : l ≠ (s.heap.push { cls := .type "set", dict := none, data := .set #[] 0 (.fresh 0 0 led) }).objs.size := by
          rw [Heap.size_push]; exact Nat.ne_of_lt (Nat.lt_succ_of_lt hlS)
        have hSf : s.heap.objs.size ∉ [(s.heap.push { cls := .type "set", dict := none, data := .set #[] 0 (.fresh 0 0 led) }).objs.size, l] := by
          rw [Heap.size_push]; simp only [List.mem_cons, List.mem_singleton, List.not_mem_nil, or_false, not_or]
          exact ⟨Nat.ne_of_lt (Nat.lt_succ_self _), Nat.ne_of_gt hlS⟩
        have hsz : xs.length = items.size := by rw [← StrsAre.len_eq hi, Array.length_toList]
        have hval : ∀ (i : Nat) (v : Value), items[i]? = some v → ∃ t, v = .str (xs.getD i Str.empty) t := fun i v hv => SS.strs_at hi i v (by rw [Array.getElem?_toList]; exact hv)
        refine setLoop ((Walks.list hh3 _ l hneI items).toS) s.heap.objs.size hSf xs hsz (by rw [← hsz]; exact hn1) hval (items.size - 0) 0 _ (by omega) (Nat.zero_le _) ⟨⟨_, Heap.get?_push_size _ rfl, rfl, rfl⟩, (hl1.push _)⟩ ?hS0 ?hR
        case hS0 =>
          have hget : ((s.heap.push { cls := .type "set", dict := none, data := .set #[] 0 (.fresh 0 0 led) }).push { cls := .type "list_iterator", data := .fields #[.ref l, .int 0 0] }).get? s.heap.objs.size
              = some { cls := .type "set", dict := none, data := .set #[] 0 (.fresh 0 0 led) } := Heap.get?_push_of_some _ hS
          exact PyProof.Rows.SetOf_congr ((PyProof.Rows.setObjOf_fresh (knd := PySem.strKind prog w) led).setOf hget (by unfold scanBound; omega)) (fun _ => rfl) rfl
        case hR =>
          intro s' hm hS'
          obtain ⟨h', g', d', tk', os'⟩ := s'
          have eg : g' = s.gens := hm.gens
          have ed : d' = s.drawn := hm.drawn
          have eo : os' = s.os := hm.os
          subst eg; subst ed; subst eo
          show wpAny _ _ _ _ _ _
          refine wpAny_pure ?_
          show wpAny _ _ (ret Value.none) _ _ _
          refine wpAny_pure ⟨rfl, h', tk', rfl, hS', fun b o hb e => ?_⟩
          have hb1 : b ≠ s.heap.objs.size := Nat.ne_of_lt hb
          have hb2 : b ≠ (s.heap.push { cls := .type "set", dict := none, data := .set #[] 0 (.fresh 0 0 led) }).objs.size := by
            rw [Heap.size_push]; exact Nat.ne_of_lt (Nat.lt_succ_of_lt hb)
          exact hm.heap b o (by simp only [List.mem_cons, List.mem_singleton, List.not_mem_nil, or_false, not_or]; exact ⟨hb1, hb2⟩) (Heap.get?_push_of_some _ (Heap.get?_push_of_some _ e))
      · cases r₂ with
        | error e => exact hr₂
        | ok fl₂ =>
          cases fl₂ with
          | ret r =>
            obtain ⟨rfl, h', tk, rfl, hS', hk'⟩ := hr₂
            repeat (any_goals (first | assumption | wp_step))
            exact h _ _ hS' hk'
          | _ => exact hr₂.elim
    | _ => exact hr.elim
end
section
variable {prog : Program} {w : World} {A : Around} {E : Value → Shared → Prop} {s : Shared}
theorem setT {l : Addr} {items : Array Value} {xs : List Str} {Q : Value → Shared → Prop} (hh : A.handled = none) (hl : s.heap.IsTuple l items) (hi : PyProof.Rows.StrsAre items.toList xs) (hn1 : xs.length + 1 < scanBound)
    (h : ∀ (h' : Heap) (tk : Nat), h'.SetOf (PySem.strKind prog w) s.heap.objs.size (fun k' => (dd xs).any (· == k')) (dd xs).length → (∀ b o, b < s.heap.objs.size → s.heap.get? b = some o → h'.get? b = some o) → Q (.ref s.heap.objs.size) { s with heap := h', toks := tk }) :
    wpAny (model prog w) A (call (.type "set") [.ref l]) Q E s := by
  obtain ⟨c, tl, hmro⟩ := PySem.F.called_set.mro
  have hmade := PySem.F.called_set.made
  have hsub := PySem.F.called_set.sub
  refine wpAny_call (codeAny_of_tree ?_)
  show wpAny _ _ (callAny (.type "set") _) _ _ _
  refine wpAny_pure ⟨Code.quiet_builtin _ (by decide +kernel), codeAny_builtin PySem.F.entry_type_call ?_⟩
  rw [Around.under_plain (weight_type_call_type "set" [.ref l] []) rfl]
  have h1 := PySem.F.called_set.notType
  have h2 := PySem.F.called_set.canCreate
  have hct := PySem.F.typeCall_set_1 (.ref l)
  repeat (any_goals (first | assumption | wp_step))
  refine codeAny_mono (code_set_new_1 (.ref l) (E := E) (Q₁ := fun obj s₁ => ∃ led : Bool, obj = .ref s.heap.objs.size ∧ s₁ = { s with heap := s.heap.push { cls := .type "set", dict := none, data := .set #[] 0 (.fresh 0 0 led) } }) fun led => ⟨led, rfl, rfl⟩) fun r s₁ hr => ?_
  cases r with
  | error e => exact hr
  | ok fl =>
    cases fl with
    | ret obj =>
      obtain ⟨led, rfl, rfl⟩ := hr
      have hS : (s.heap.push { cls := .type "set", dict := none, data := .set #[] 0 (.fresh 0 0 led) }).get? s.heap.objs.size = some { cls := .type "set", dict := none, data := .set #[] 0 (.fresh 0 0 led) } := Heap.get?_push_size _ rfl
      have hT : Shared.TypeIs { s with heap := s.heap.push { cls := .type "set", dict := none, data := .set #[] 0 (.fresh 0 0 led) } } (.ref s.heap.objs.size) "set" := ⟨_, hS, rfl⟩
      have hli := PySem.F.called_set.init.lookup
      have hbi := PySem.F.called_set.init.bind (.ref s.heap.objs.size)
      repeat (any_goals (first | assumption | wp_step))
      refine codeAny_mono (codeAny_call_builtin (R := wants (fun r s₂ => r = .none ∧ ∃ h' tk, s₂ = { s with heap := h', toks := tk } ∧ h'.SetOf (PySem.strKind prog w) s.heap.objs.size (fun k' => (dd xs).any (· == k')) (dd xs).length ∧
          (∀ b o, b < s.heap.objs.size → s.heap.get? b = some o → h'.get? b = some o)) E) PySem.F.called_set.init.plain PySem.F.entry_set_init (check_set_init_1 hT ?_)) fun r₂ s₂ hr₂ => ?_
      · obtain ⟨ol, hol, hcl, nl, hdl⟩ := hl
        obtain ⟨ocls, odict, odata, oslots⟩ := ol
        simp only at hcl hdl
        subst hcl; subst hdl
        have hol' : (s.heap.push { cls := .type "set", dict := none, data := .set #[] 0 (.fresh 0 0 led) }).get? l = some { cls := .type "tuple", dict := odict, data := .seq items nl, slots := oslots } := Heap.get?_push_of_some _ hol
        have hsls := PySem.F.sub_tuple_set
        have hslf := PySem.F.sub_tuple_frozenset
        have hne : (Value.type "tuple" == Value.type "dict") = false := by decide
        have hl1 : (s.heap.push { cls := .type "set", dict := none, data := .set #[] 0 (.fresh 0 0 led) }).IsTuple l items := ⟨_, hol', rfl, nl, rfl⟩
        unfold Builtin.«set.__init__» noKeywords Builtin.Frozenset.updateFrom
        generalize hPI : pyIter = PI
        wp_walk
        subst hPI
        refine wpAny_pyIter_tuple hl1 ?_
        refine wpAny_bind (wpAny_runValue ?_)
        have hlS : l < s.heap.objs.size := Heap.lt_size hol
        have hh3 : A.in1.in1.in1.handled = none := by simp [hh]
        have hneI : l ≠ (s.heap.push { cls := .type "set", dict := none, data := .set #[] 0 (.fresh 0 0 led) }).objs.size := by
          rw [Heap.size_push]; exact Nat.ne_of_lt (Nat.lt_succ_of_lt hlS)
        have hSf : s.heap.objs.size ∉ [(s.heap.push { cls := .type "set", dict := none, data := .set #[] 0 (.fresh 0 0 led) }).objs.size, l] := by
          rw [Heap.size_push]; simp only [List.mem_cons, List.mem_singleton, List.not_mem_nil, or_false, not_or]
          exact ⟨Nat.ne_of_lt (Nat.lt_succ_self _), Nat.ne_of_gt hlS⟩
        have hsz : xs.length = items.size := by rw [← StrsAre.len_eq hi, Array.length_toList]
        have hval : ∀ (i : Nat) (v : Value), items[i]? = some v → ∃ t, v = .str (xs.getD i Str.empty) t := fun i v hv => SS.strs_at hi i v (by rw [Array.getElem?_toList]; exact hv)
        refine setLoop ((Walks.tuple hh3 _ l hneI items).toS) s.heap.objs.size hSf xs hsz (by rw [← hsz]; exact hn1) hval (items.size - 0) 0 _ (by omega) (Nat.zero_le _) ⟨⟨_, Heap.get?_push_size _ rfl, rfl, rfl⟩, (hl1.push _)⟩ ?hS0 ?hR
        case hS0 =>
          have hget : ((s.heap.push { cls := .type "set", dict := none, data := .set #[] 0 (.fresh 0 0 led) }).push { cls := .type "tuple_iterator", data := .fields #[.ref l, .int 0 0] }).get? s.heap.objs.size
              = some { cls := .type "set", dict := none, data := .set #[] 0 (.fresh 0 0 led) } := Heap.get?_push_of_some _ hS
          exact PyProof.Rows.SetOf_congr ((PyProof.Rows.setObjOf_fresh (knd := PySem.strKind prog w) led).setOf hget (by unfold scanBound; omega)) (fun _ => rfl) rfl
        case hR =>
          intro s' hm hS'
          obtain ⟨h', g', d', tk', os'⟩ := s'
          have eg : g' = s.gens := hm.gens
          have ed : d' = s.drawn := hm.drawn
          have eo : os' = s.os := hm.os
          subst eg; subst ed; subst eo
          show wpAny _ _ _ _ _ _
          refine wpAny_pure ?_
          show wpAny _ _ (ret Value.none) _ _ _
          refine wpAny_pure ⟨rfl, h', tk', rfl, hS', fun b o hb e => ?_⟩
          have hb1 : b ≠ s.heap.objs.size := Nat.ne_of_lt hb
          have hb2 : b ≠ (s.heap.push { cls := .type "set", dict := none, data := .set #[] 0 (.fresh 0 0 led) }).objs.size := by
            rw [Heap.size_push]; exact Nat.ne_of_lt (Nat.lt_succ_of_lt hb)
          exact hm.heap b o (by simp only [List.mem_cons, List.mem_singleton, List.not_mem_nil, or_false, not_or]; exact ⟨hb1, hb2⟩) (Heap.get?_push_of_some _ (Heap.get?_push_of_some _ e))
      · cases r₂ with
        | error e => exact hr₂
        | ok fl₂ =>
          cases fl₂ with
          | ret r =>
            obtain ⟨rfl, h', tk, rfl, hS', hk'⟩ := hr₂
            repeat (any_goals (first | assumption | wp_step))
            exact h _ _ hS' hk'
          | _ => exact hr₂.elim
    | _ => exact hr.elim
end
end Zs
/-! Z5: the set of several texts, which can be walked: sorted(set(texts)). After the library's set(ints). -/
namespace Zs
open PySem PySem.Spec PyProof.Rows L2
def keyS (e : Int × Value) : Str := match e.2 with | .str k _ => k | _ => Str.empty
def GoodS (w : World) (e : Int × Value) : Prop := ∃ k tk, e.2 = Value.str k tk ∧ e.1 = hashStr w k
def SetS (P : Program) (w : World) (h : Heap) (a : Addr) (S : Str → Bool) (n : Nat) : Prop :=
  ∃ o es ep t, h.get? a = some o ∧ o.ExactSet ∧ o.data = .set es ep t ∧ (∀ e ∈ es.toList, GoodS w e) ∧ (es.toList.map keyS).Nodup ∧ (∀ k, S k = true ↔ k ∈ es.toList.map keyS) ∧
    es.size < scanBound ∧ t.fits es.size = true ∧ es.size = n ∧ Ris t.place.toList ∧ (w.params.followText "set-order" = true ∨ t.led = true)
section
variable {P : Program} {w : World} {h h' : Heap} {a : Addr} {S : Str → Bool} {n : Nat}
theorem SetS.at (R : SetS P w h a S n) (k : ∀ o, h.get? a = some o → h'.get? a = some o) : SetS P w h' a S n := by
  obtain ⟨o, es, ep, t, ho, r⟩ := R
  exact ⟨o, es, ep, t, k o ho, r⟩
theorem SetS.congr {S' : Str → Bool} (R : SetS P w h a S n) (e : ∀ k, S' k = S k) : SetS P w h a S' n := by
  have q : S' = S := funext e
  rw [q]; exact R
theorem goodS_elems {l : List (Int × Value)} (g : ∀ e ∈ l, GoodS w e) : ElemsOf (PySem.strKind P w) l := fun e he => by
  obtain ⟨k, tk, h1, h2⟩ := g e he
  exact ⟨⟨k, by rw [h1]; exact strKind_is P w k tk, h2⟩, by rw [h1] <;> rfl⟩
theorem goodS_is {e : Int × Value} (g : GoodS w e) (k : Str) : (PySem.strKind P w).is k e.2 = true ↔ keyS e = k := by
  obtain ⟨k0, tk, h1, _⟩ := g
  unfold keyS
  rw [h1]
  constructor
  · intro z
    exact (PySem.strKind P w).inj _ _ _ (strKind_is P w k0 tk) z
  · rintro rfl
    exact strKind_is P w _ tk
theorem goodS_mem {l : List (Int × Value)} (g : ∀ e ∈ l, GoodS w e) (k : Str) : k ∈ l.map keyS ↔ ∃ e ∈ l, (PySem.strKind P w).is k e.2 = true := by
  rw [List.mem_map]
  constructor
  · rintro ⟨e, he, q⟩
    exact ⟨e, he, (goodS_is (g e he) k).2 q⟩
  · rintro ⟨e, he, q⟩
    exact ⟨e, he, (goodS_is (g e he) k).1 q⟩
theorem setS_new_at {ns : List Str} (ho : h.get? a = some { cls := .type "set", dict := none, data := .set #[] 0 (.fresh 0 0 (!w.params.followText "set-order")) }) : SetS P w h a (fun j => decide (j ∈ ns.take 0)) 0 :=
  ⟨_, #[], 0, _, ho, ⟨rfl, rfl, rfl⟩, rfl, (fun e he => by simp at he), (by simp), (fun k => by simp), (by decide), (by rfl), rfl, List.Pairwise.nil, by
    show _ ∨ (!w.params.followText "set-order") = true
    cases w.params.followText "set-order"
    · exact .inr rfl
    · exact .inl rfl⟩
end
section
variable {P : Program} {w : World} {A : Around} {E : Value → Shared → Prop} {s : Shared} {a : Addr} {S : Str → Bool} {n : Nat}
theorem setS_add_tail {g : Bool → Sem Unit} (hg : ∀ (b : Bool) (s₁ : Shared) (Q' : Unit → Shared → Prop), Q' () s₁ → wpAny (model P w) A (g b) Q' E s₁)
    {o : Obj} {es : Array (Int × Value)} {ep : Nat} {t : SetTable} (ho : s.heap.get? a = some o) (hex : o.ExactSet) (hd : o.data = .set es ep t)
    {es1 : Array (Int × Value)} {t2 : SetTable} {S' : Str → Bool} (g1 : ∀ e ∈ es1.toList, GoodS w e) (nd1 : (es1.toList.map keyS).Nodup) (m1 : ∀ k, S' k = true ↔ k ∈ es1.toList.map keyS)
    (hb1 : es1.size < scanBound) (hf2 : t2.fits es1.size = true) (hr : Ris t2.place.toList) (hl : w.params.followText "set-order" = true ∨ t2.led = true) {wasDummy : Bool} {R : Option Bool → Shared → Prop}
    (hR : ∀ h', Heap.SameBut a s.heap h' → SetS P w h' a S' es1.size → R (some true) { s with heap := h' }) :
    wpAny (model P w) A (do
        storeSet a es1 t2
        if (!wasDummy && t2.tooFull) = true then do
            g (relayAll t2 es1 (SetTable.grown es1.size)).2.2
            storeSet a (relayAll t2 es1 (SetTable.grown es1.size)).1 (relayAll t2 es1 (SetTable.grown es1.size)).2.1
            pure (some true)
          else pure (some true)) R E s := by
  refine wpAny_bind (wpAny_storeSet_of ho hd ?_ (fits_of_scanBound hb1))
  have ho1 := store_at (es' := es1) (t' := t2) ho hd
  have sb1 := Heap.SameBut.update s.heap a (Obj.putSet es1 t2)
  split
  · have pm := relayAll_perm t2 es1 (SetTable.grown es1.size)
    have hf3 := relayAll_fits t2 es1 (SetTable.grown es1.size)
    have hr3 := relayAll_ris t2 es1 (SetTable.grown es1.size)
    have hl3 := relayAll_led t2 es1 (SetTable.grown es1.size)
    generalize relayAll t2 es1 (SetTable.grown es1.size) = Z at pm hf3 hr3 hl3 ⊢
    obtain ⟨es2, t3, gave⟩ := Z
    dsimp only at pm hf3 hr3 hl3 ⊢
    have hsz : es2.size = es1.size := by rw [← Array.length_toList, pm.length_eq, Array.length_toList]
    have hb2 : es2.size < scanBound := by rw [hsz]; exact hb1
    refine wpAny_bind (hg _ _ _ ?_)
    refine wpAny_bind (wpAny_storeSet_of ho1 rfl ?_ (fits_of_scanBound hb2))
    have ho2 := store_at (es' := es2) (t' := t3) ho1 rfl
    refine wpAny_pure (hR _ (sb1.trans (Heap.SameBut.update _ a _)) ?_)
    exact ⟨_, es2, _, t3, ho2, hex, rfl, fun e he => g1 e (pm.mem_iff.mp he), (pm.map keyS).nodup_iff.mpr nd1, fun k => (m1 k).trans (pm.map keyS).mem_iff.symm, hb2, hf3, hsz, hr3,
      hl.imp id fun z => by rw [hl3]; exact z⟩
  · exact wpAny_pure (hR _ sb1 ⟨_, es1, _, t2, ho1, hex, rfl, g1, nd1, m1, hb1, hf2, rfl, hr, hl⟩)
theorem setS_add_hashed {k : Str} {tk : Tok} {Q : Bool → Shared → Prop} (R : SetS P w s.heap a S n) (room : n + 1 < scanBound)
    (hQ : ∀ h', Heap.SameBut a s.heap h' → SetS P w h' a (fun j => S j || decide (j = k)) (if S k = true then n else n + 1) → Q (!S k) { s with heap := h' }) :
    wpAny (model P w) A (setAddHashed a (.str k tk) ((PySem.strKind P w).hash k)) Q E s := by
  obtain ⟨o, es, ep, t, ho, hex, hd, g, nd, hm, hb, hf, hn, hr, hl⟩ := R
  have hkey : (PySem.strKind P w).is k (.str k tk) = true := strKind_is P w k tk
  have hsc : (Value.str k tk).scannable = true := rfl
  have hel : ElemsOf (PySem.strKind P w) es.toList := goodS_elems g
  unfold setAddHashed setAddHashedIn
  refine wpAny_holding (wpAny_bind (wpAny_setState_of ho hd hf ?_))
  dsimp only
  rw [byScan_of hsc hb hel]
  simp only [↓reduceIte]
  unfold setAddByScan
  refine wpAny_bind ?_
  refine wpAny_bind (wpAny_rule ?_)
  refine wpAny_bind (wpAny_setScan_of hkey ho hd hf hel ?_)
  cases hfi : List.findIdx? (fun e => (PySem.strKind P w).is k e.2) es.toList with
  | some j =>
    dsimp only
    obtain ⟨hj, pj, _⟩ := List.findIdx?_eq_some_iff_getElem.mp hfi
    have hSk : S k = true := (hm k).2 ((goodS_mem (P := P) (w := w) g k).2 ⟨es.toList[j], List.getElem_mem hj, pj⟩)
    refine wpAny_pure (wpAny_pure ?_)
    have q := hQ s.heap (Heap.SameBut.refl a s.heap) ⟨o, es, ep, t, ho, hex, hd, g, nd, fun i => by
      rw [Bool.or_eq_true, decide_eq_true_eq, ← hm i]
      exact ⟨fun z => z.elim id (fun e => e ▸ hSk), .inl⟩, hb, hf, by rw [if_pos hSk]; exact hn, hr, hl⟩
    rw [hSk] at q
    exact q
  | none =>
    dsimp only
    have hnk : k ∉ es.toList.map keyS := fun z => by
      obtain ⟨e, he, q⟩ := (goodS_mem (P := P) (w := w) g k).1 z
      have c := List.findIdx?_eq_none_iff.mp hfi e he
      rw [q] at c
      cases c
    have hSk : S k = false := by
      cases q : S k with
      | false => rfl
      | true => exact absurd ((hm k).1 q) hnk
    have hgw : ∀ (b : Bool) {s₁ : Shared} {Q' : Unit → Shared → Prop}, Q' () s₁ → wpAny (model P w) A (match b with | true => rule "set.scan.the-table-gave-way" | false => pure ()) Q' E s₁ :=
      fun b s₁ Q' q => by cases b <;> first | exact wpAny_pure q | exact wpAny_rule q
    have pm := layNew_perm t es ((PySem.strKind P w).hash k) (.str k tk)
    have hf1 := layNew_fits t es ((PySem.strKind P w).hash k) (.str k tk)
    have hr1 := layNew_ris t es ((PySem.strKind P w).hash k) (.str k tk) hr
    have hl1 := layNew_led t es ((PySem.strKind P w).hash k) (.str k tk)
    generalize layNew t es ((PySem.strKind P w).hash k) (.str k tk) = Z at pm hf1 hr1 hl1 ⊢
    obtain ⟨es1, t1, wasDummy, gave⟩ := Z
    dsimp only at pm hf1 hr1 hl1 ⊢
    rw [Array.toList_push] at pm
    have pc : es1.toList.Perm (((PySem.strKind P w).hash k, Value.str k tk) :: es.toList) := pm.trans (List.perm_append_singleton _ _)
    have pk : (es1.toList.map keyS).Perm (k :: es.toList.map keyS) := pc.map keyS
    have g1 : ∀ e ∈ es1.toList, GoodS w e := fun e he => by
      rcases List.mem_cons.mp (pc.mem_iff.mp he) with z | z
      · rw [z]; exact ⟨k, tk, rfl, rfl⟩
      · exact g e z
    have nd1 : (es1.toList.map keyS).Nodup := pk.nodup_iff.mpr (List.nodup_cons.mpr ⟨hnk, nd⟩)
    have m1 : ∀ i, (S i || decide (i = k)) = true ↔ i ∈ es1.toList.map keyS := fun i => by
      rw [Bool.or_eq_true, decide_eq_true_eq, hm i, pk.mem_iff, List.mem_cons]
      exact Or.comm
    have hsz : es1.size = n + 1 := by rw [← Array.length_toList, pc.length_eq, List.length_cons, Array.length_toList, hn]
    have hb1 : es1.size < scanBound := by rw [hsz]; exact room
    have hled : w.params.followText "set-order" = true ∨ t1.led = true := hl.imp id fun z => by rw [hl1]; exact z
    have fin : ∀ h', Heap.SameBut a s.heap h' → SetS P w h' a (fun j => S j || decide (j = k)) es1.size → Q true { s with heap := h' } := fun h' sb r => by
      have q := hQ h' sb
      rw [hSk] at q
      rw [hsz] at r
      exact q r
    refine wpAny_bind (hgw _ ?_)
    split
    · refine wpAny_bind ?_
      rw [hashByValue_scannable 8 hsc]
      refine wpAny_pure ?_
      refine setS_add_tail ?_ ho hex hd g1 nd1 m1 hb1 ?_ ?_ ?_ ?_
      · intro b s₁ Q' q; cases b <;> first | exact wpAny_pure q | exact wpAny_rule q
      · first | (split <;> first | exact hf1 | exact SetTable.fits_plain_off hf1) | exact hf1
      · first | (split <;> exact hr1) | exact hr1
      · first | (split <;> exact hled) | exact hled
      · intro h' sb r; dsimp only; exact wpAny_pure (fin h' sb r)
    · refine wpAny_bind (wpAny_pure ?_)
      simp only [↓reduceIte]
      refine setS_add_tail ?_ ho hex hd g1 nd1 m1 hb1 hf1 hr1 hled ?_
      · intro b s₁ Q' q; cases b <;> first | exact wpAny_pure q | exact wpAny_rule q
      · intro h' sb r; dsimp only; exact wpAny_pure (fin h' sb r)
end
section
variable {P : Program} {w : World} {A : Around} {E : Value → Shared → Prop} {s : Shared}
theorem set_update_strs {I : Addr} {fp wr : List Addr} {G : Array GenState → Array GenState → Prop} {n : Nat} {Pv : Nat → Value → Prop} {St : Nat → Shared → Prop} {R : Result → Shared → Prop}
    (W : WalksS P w A.in1 I fp wr G n Pv St) (S : Addr) (hSf : S ∉ fp) (ns : List Str) (hn : n = ns.length) (hb : ns.length + 1 < scanBound) (hval : ∀ i v, Pv i v → ∃ k t, ns[i]? = some k ∧ v = .str k t) :
    ∀ (k i : Nat) (s : Shared), n - i = k → i ≤ n → St i s → (∃ c, c ≤ i ∧ SetS P w s.heap S (fun j => decide (j ∈ ns.take i)) c) →
      (∀ s' c, Moved (S :: wr) G s s' → c ≤ n → SetS P w s'.heap S (fun j => decide (j ∈ ns)) c → R (.ok (.ret .none)) s') →
      codeAny (model P w) A (.builtin "set.update.loop" ⟨[.ref S, .ref I], []⟩) R s := by
  have hSw : S ∉ wr := fun h => hSf (W.sub _ h)
  have hsub : ∀ b ∈ wr, b ∈ S :: wr := fun b hb => List.mem_cons_of_mem _ hb
  intro k
  induction k with
  | zero =>
    intro i s hk' hi hst ⟨c, hc, hS⟩ hR
    have hin : i = n := by omega
    subst hin
    refine codeAny_builtin F.entry_set_update_loop ?_
    rw [Around.under_plainId F.plain_set_update_loop _]
    show wpAny _ A.in1 (pyNext (.ref I) >>= _) _ _ s
    refine wpAny_bind (W.done s _ _ hst fun s' hm => ?_)
    show wpAny _ A.in1 (ret Value.none) _ _ s'
    have e : ns.take i = ns := List.take_of_length_le (by omega)
    rw [e] at hS
    exact wpAny_pure (hR s' c (hm.mono hsub) hc (hS.at fun o e => hm.heap S o hSw e))
  | succ k ih =>
    intro i s hk' hi hst ⟨c, hc, hS⟩ hR
    have hlt : i < n := by omega
    refine codeAny_builtin F.entry_set_update_loop ?_
    rw [Around.under_plainId F.plain_set_update_loop _]
    show wpAny _ A.in1 (pyNext (.ref I) >>= _) _ _ s
    refine wpAny_bind (W.item i s _ _ hlt hst fun v s' hP hst' hm => ?_)
    obtain ⟨z, t, hz, rfl⟩ := hval i v hP
    have hS' : SetS P w s'.heap S (fun j => decide (j ∈ ns.take i)) c := hS.at fun o e => hm.heap S o hSw e
    show wpAny _ A.in1 (holding [Value.str z t] (setAdd S (.str z t)) >>= _) _ _ s'
    refine wpAny_bind (wpAny_holding ?_)
    unfold setAdd
    refine wpAny_holding ?_
    refine wpAny_bind ((PySem.strKind P w).pyHash (k := z) (strKind_is _ _ _ _) ?_)
    refine setS_add_hashed (s := { s' with toks := s'.toks + 1 }) hS' (by omega) fun h' hsb hS2 => ?_
    have hS3 : SetS P w h' S (fun j => decide (j ∈ ns.take (i + 1))) (if decide (z ∈ ns.take i) = true then c else c + 1) := hS2.congr fun j => by
      rw [List.take_add_one, hz]
      simp [List.mem_append]
    have hc3 : (if decide (z ∈ ns.take i) = true then c else c + 1) ≤ i + 1 := by
      split <;> omega
    refine wpAny_pure ⟨plainId_quiet F.plain_set_update_loop _, ih (i + 1) _ (by omega) hlt (W.frame _ s' _ _ hst' (Nat.le_succ _) fun b hb o e => ?_) ⟨_, hc3, hS3⟩ fun s'' c2 hm'' hc'' hS'' => ?_⟩
    · rw [hsb.2 b (fun h : b = S => hSf (by rw [← h]; exact hb))]; exact e
    · refine hR s'' c2 (Moved.trans W.gtrans ((hm.mono hsub).then_heap (Nat.le_succ _) fun b o hb e => ?_) hm'') hc'' hS''
      rw [hsb.2 b (fun h : b = S => hb (by rw [h]; exact List.mem_cons_self))]; exact e
end
section
variable {P : Program} {w : World} {A : Around} {E : Value → Shared → Prop} {s : Shared}
theorem call_set_listS {l : Addr} {items : Array Value} (ns : List Str) {Q : Value → Shared → Prop} (hh : A.handled = none) (hl : s.heap.IsList l items) (hit : StrsAre items.toList ns) (hb : ns.length + 1 < scanBound)
    (h : ∀ (h' : Heap) (tk c : Nat), SetS P w h' s.heap.objs.size (fun j => decide (j ∈ ns)) c → c ≤ ns.length → (∀ b o, s.heap.get? b = some o → h'.get? b = some o) → Q (.ref s.heap.objs.size) { s with heap := h', toks := tk }) :
    wpAny (model P w) A (call (.type "set") [.ref l]) Q E s := by
  have hisz : items.size = ns.length := by
    have q := StrsAre.len_eq hit
    rw [Array.length_toList] at q
    exact q
  obtain ⟨c, tl, hmro⟩ := F.called_set.mro
  have hmade := F.called_set.made
  have hsub := F.called_set.sub
  refine wpAny_call (codeAny_of_tree ?_)
  show wpAny _ _ (callAny (.type "set") _) _ _ _
  refine wpAny_pure ⟨Code.quiet_builtin _ (by decide +kernel), codeAny_builtin F.entry_type_call ?_⟩
  rw [Around.under_plain (weight_type_call_type "set" [.ref l] []) rfl]
  have h1 := F.called_set.notType
  have h2 := F.called_set.canCreate
  have hct := F.typeCall_set_1 (.ref l)
  repeat (any_goals (first | assumption | wp_step))
  refine codeAny_mono (code_set_led1 (.ref l) (E := E) (Q₁ := fun obj s₁ => obj = .ref s.heap.objs.size ∧ s₁ = { s with heap := s.heap.push { cls := .type "set", dict := none, data := .set #[] 0 (.fresh 0 0 (!w.params.followText "set-order")) } }) ⟨rfl, rfl⟩) fun r s₁ hr => ?_
  cases r with
  | error e => exact hr
  | ok fl =>
    cases fl with
    | ret obj =>
      obtain ⟨rfl, rfl⟩ := hr
      have hS : (s.heap.push { cls := .type "set", dict := none, data := .set #[] 0 (.fresh 0 0 (!w.params.followText "set-order")) }).get? s.heap.objs.size = some { cls := .type "set", dict := none, data := .set #[] 0 (.fresh 0 0 (!w.params.followText "set-order")) } := Heap.get?_push_size _ rfl
      have hT : Shared.TypeIs { s with heap := s.heap.push { cls := .type "set", dict := none, data := .set #[] 0 (.fresh 0 0 (!w.params.followText "set-order")) } } (.ref s.heap.objs.size) "set" := ⟨_, hS, rfl⟩
      have hli := F.called_set.init.lookup
      have hbi := F.called_set.init.bind (.ref s.heap.objs.size)
      repeat (any_goals (first | assumption | wp_step))
      refine codeAny_mono (codeAny_call_builtin (R := wants (fun r s₂ => r = .none ∧ ∃ h' tk c, s₂ = { s with heap := h', toks := tk } ∧ SetS P w h' s.heap.objs.size (fun j => decide (j ∈ ns)) c ∧ c ≤ ns.length ∧
          (∀ b o, s.heap.get? b = some o → h'.get? b = some o)) E) F.called_set.init.plain F.entry_set_init (check_set_init_1 hT ?_)) fun r₂ s₂ hr₂ => ?_
      · obtain ⟨ol, hol, hcl, nl, hdl⟩ := hl
        obtain ⟨ocls, odict, odata, oslots⟩ := ol
        simp only at hcl hdl
        subst hcl; subst hdl
        have hol' : (s.heap.push { cls := .type "set", dict := none, data := .set #[] 0 (.fresh 0 0 (!w.params.followText "set-order")) }).get? l = some { cls := .type "list", dict := odict, data := .seq items nl, slots := oslots } := Heap.get?_push_of_some _ hol
        have hsls := F.sub_list_set
        have hslf := F.sub_list_frozenset
        have hne : (Value.type "list" == Value.type "dict") = false := by decide
        have hl1 : (s.heap.push { cls := .type "set", dict := none, data := .set #[] 0 (.fresh 0 0 (!w.params.followText "set-order")) }).IsList l items := ⟨_, hol', rfl, nl, rfl⟩
        unfold Builtin.«set.__init__» noKeywords Builtin.Frozenset.updateFrom
        generalize hPI : pyIter = PI
        wp_walk
        subst hPI
        refine wpAny_pyIter_list hl1 ?_
        refine wpAny_bind (wpAny_runValue ?_)
        have hlS : l < s.heap.objs.size := Heap.lt_size hol
        have hh3 : A.in1.in1.in1.handled = none := by simp [hh]
        have hz1 : (s.heap.push { cls := .type "set", dict := none, data := .set #[] 0 (.fresh 0 0 (!w.params.followText "set-order")) }).objs.size = s.heap.objs.size + 1 := Heap.size_push ..
        have hneI : l ≠ (s.heap.push { cls := .type "set", dict := none, data := .set #[] 0 (.fresh 0 0 (!w.params.followText "set-order")) }).objs.size := by
          rw [Heap.size_push]; exact Nat.ne_of_lt (Nat.lt_succ_of_lt hlS)
        have hSf : s.heap.objs.size ∉ [(s.heap.push { cls := .type "set", dict := none, data := .set #[] 0 (.fresh 0 0 (!w.params.followText "set-order")) }).objs.size, l] := by
          rw [Heap.size_push]; simp only [List.mem_cons, List.mem_singleton, List.not_mem_nil, or_false, not_or]
          exact ⟨Nat.ne_of_lt (Nat.lt_succ_self _), Nat.ne_of_gt hlS⟩
        have hval : ∀ (i : Nat) (v : Value), items[i]? = some v → ∃ k t, ns[i]? = some k ∧ v = .str k t := fun i v hv => by
          have hi : i < ns.length := by rw [← hisz]; exact (Array.getElem?_eq_some_iff.mp hv).1
          obtain ⟨t, e⟩ := SS.strs_at hit i v (by rw [Array.getElem?_toList]; exact hv)
          refine ⟨ns[i], t, List.getElem?_eq_getElem hi, ?_⟩
          rw [e, List.getD_eq_getElem?_getD, List.getElem?_eq_getElem hi] <;> rfl
        refine set_update_strs ((Walks.list hh3 _ l hneI items).toS) s.heap.objs.size
          hSf ns hisz hb hval (items.size - 0) 0 _ (by omega) (Nat.zero_le _)
          ⟨⟨_, Heap.get?_push_size _ rfl, rfl, rfl⟩, (hl1.push _)⟩ ?hS0 ?hR
        case hS0 =>
          have hget : ((s.heap.push { cls := .type "set", dict := none, data := .set #[] 0 (.fresh 0 0 (!w.params.followText "set-order")) }).push { cls := .type "list_iterator", data := .fields #[.ref l, .int 0 0] }).get? s.heap.objs.size
              = some { cls := .type "set", dict := none, data := .set #[] 0 (.fresh 0 0 (!w.params.followText "set-order")) } := Heap.get?_push_of_some _ hS
          exact ⟨0, Nat.le_refl 0, setS_new_at hget⟩
        case hR =>
          intro s' c' hm hc' hS'
          obtain ⟨h', g2, d', tk', os'⟩ := s'
          have eg : g2 = s.gens := hm.gens
          have ed : d' = s.drawn := hm.drawn
          have eo : os' = s.os := hm.os
          subst eg; subst ed; subst eo
          show wpAny _ _ _ _ _ _
          refine wpAny_pure ?_
          show wpAny _ _ (ret Value.none) _ _ _
          rw [hisz] at hc'
          refine wpAny_pure ⟨rfl, h', tk', c', rfl, hS', hc', fun b o e => ?_⟩
          have hb0 : b < s.heap.objs.size := Heap.lt_size e
          have hb1 : b ≠ s.heap.objs.size := Nat.ne_of_lt hb0
          have hb2 : b ≠ (s.heap.push { cls := .type "set", dict := none, data := .set #[] 0 (.fresh 0 0 (!w.params.followText "set-order")) }).objs.size := by
            rw [Heap.size_push]; exact Nat.ne_of_lt (Nat.lt_succ_of_lt hb0)
          exact hm.heap b o (by simp only [List.mem_cons, List.mem_singleton, List.not_mem_nil, or_false, not_or]; exact ⟨hb1, hb2⟩) (Heap.get?_push_of_some _ (Heap.get?_push_of_some _ e))
      · cases r₂ with
        | error e => exact hr₂
        | ok fl₂ =>
          cases fl₂ with
          | ret r =>
            obtain ⟨rfl, h', tk, c', rfl, hS', hc', hk'⟩ := hr₂
            repeat (any_goals (first | assumption | wp_step))
            exact h _ _ _ hS' hc' hk'
          | _ => exact hr₂.elim
    | _ => exact hr.elim
theorem call_set_tupS {l : Addr} {items : Array Value} (ns : List Str) {Q : Value → Shared → Prop} (hh : A.handled = none) (hl : s.heap.IsTuple l items) (hit : StrsAre items.toList ns) (hb : ns.length + 1 < scanBound)
    (h : ∀ (h' : Heap) (tk c : Nat), SetS P w h' s.heap.objs.size (fun j => decide (j ∈ ns)) c → c ≤ ns.length → (∀ b o, s.heap.get? b = some o → h'.get? b = some o) → Q (.ref s.heap.objs.size) { s with heap := h', toks := tk }) :
    wpAny (model P w) A (call (.type "set") [.ref l]) Q E s := by
  have hisz : items.size = ns.length := by
    have q := StrsAre.len_eq hit
    rw [Array.length_toList] at q
    exact q
  obtain ⟨c, tl, hmro⟩ := F.called_set.mro
  have hmade := F.called_set.made
  have hsub := F.called_set.sub
  refine wpAny_call (codeAny_of_tree ?_)
  show wpAny _ _ (callAny (.type "set") _) _ _ _
  refine wpAny_pure ⟨Code.quiet_builtin _ (by decide +kernel), codeAny_builtin F.entry_type_call ?_⟩
  rw [Around.under_plain (weight_type_call_type "set" [.ref l] []) rfl]
  have h1 := F.called_set.notType
  have h2 := F.called_set.canCreate
  have hct := F.typeCall_set_1 (.ref l)
  repeat (any_goals (first | assumption | wp_step))
  refine codeAny_mono (code_set_led1 (.ref l) (E := E) (Q₁ := fun obj s₁ => obj = .ref s.heap.objs.size ∧ s₁ = { s with heap := s.heap.push { cls := .type "set", dict := none, data := .set #[] 0 (.fresh 0 0 (!w.params.followText "set-order")) } }) ⟨rfl, rfl⟩) fun r s₁ hr => ?_
  cases r with
  | error e => exact hr
  | ok fl =>
    cases fl with
    | ret obj =>
      obtain ⟨rfl, rfl⟩ := hr
      have hS : (s.heap.push { cls := .type "set", dict := none, data := .set #[] 0 (.fresh 0 0 (!w.params.followText "set-order")) }).get? s.heap.objs.size = some { cls := .type "set", dict := none, data := .set #[] 0 (.fresh 0 0 (!w.params.followText "set-order")) } := Heap.get?_push_size _ rfl
      have hT : Shared.TypeIs { s with heap := s.heap.push { cls := .type "set", dict := none, data := .set #[] 0 (.fresh 0 0 (!w.params.followText "set-order")) } } (.ref s.heap.objs.size) "set" := ⟨_, hS, rfl⟩
      have hli := F.called_set.init.lookup
      have hbi := F.called_set.init.bind (.ref s.heap.objs.size)
      repeat (any_goals (first | assumption | wp_step))
      refine codeAny_mono (codeAny_call_builtin (R := wants (fun r s₂ => r = .none ∧ ∃ h' tk c, s₂ = { s with heap := h', toks := tk } ∧ SetS P w h' s.heap.objs.size (fun j => decide (j ∈ ns)) c ∧ c ≤ ns.length ∧
          (∀ b o, s.heap.get? b = some o → h'.get? b = some o)) E) F.called_set.init.plain F.entry_set_init (check_set_init_1 hT ?_)) fun r₂ s₂ hr₂ => ?_
      · obtain ⟨ol, hol, hcl, nl, hdl⟩ := hl
        obtain ⟨ocls, odict, odata, oslots⟩ := ol
        simp only at hcl hdl
        subst hcl; subst hdl
        have hol' : (s.heap.push { cls := .type "set", dict := none, data := .set #[] 0 (.fresh 0 0 (!w.params.followText "set-order")) }).get? l = some { cls := .type "tuple", dict := odict, data := .seq items nl, slots := oslots } := Heap.get?_push_of_some _ hol
        have hsls := F.sub_tuple_set
        have hslf := F.sub_tuple_frozenset
        have hne : (Value.type "tuple" == Value.type "dict") = false := by decide
        have hl1 : (s.heap.push { cls := .type "set", dict := none, data := .set #[] 0 (.fresh 0 0 (!w.params.followText "set-order")) }).IsTuple l items := ⟨_, hol', rfl, nl, rfl⟩
        unfold Builtin.«set.__init__» noKeywords Builtin.Frozenset.updateFrom
        generalize hPI : pyIter = PI
        wp_walk
        subst hPI
        refine wpAny_pyIter_tuple hl1 ?_
        refine wpAny_bind (wpAny_runValue ?_)
        have hlS : l < s.heap.objs.size := Heap.lt_size hol
        have hh3 : A.in1.in1.in1.handled = none := by simp [hh]
        have hz1 : (s.heap.push { cls := .type "set", dict := none, data := .set #[] 0 (.fresh 0 0 (!w.params.followText "set-order")) }).objs.size = s.heap.objs.size + 1 := Heap.size_push ..
        have hneI : l ≠ (s.heap.push { cls := .type "set", dict := none, data := .set #[] 0 (.fresh 0 0 (!w.params.followText "set-order")) }).objs.size := by
          rw [Heap.size_push]; exact Nat.ne_of_lt (Nat.lt_succ_of_lt hlS)
        have hSf : s.heap.objs.size ∉ [(s.heap.push { cls := .type "set", dict := none, data := .set #[] 0 (.fresh 0 0 (!w.params.followText "set-order")) }).objs.size, l] := by
          rw [Heap.size_push]; simp only [List.mem_cons, List.mem_singleton, List.not_mem_nil, or_false, not_or]
          exact ⟨Nat.ne_of_lt (Nat.lt_succ_self _), Nat.ne_of_gt hlS⟩
        have hval : ∀ (i : Nat) (v : Value), items[i]? = some v → ∃ k t, ns[i]? = some k ∧ v = .str k t := fun i v hv => by
          have hi : i < ns.length := by rw [← hisz]; exact (Array.getElem?_eq_some_iff.mp hv).1
          obtain ⟨t, e⟩ := SS.strs_at hit i v (by rw [Array.getElem?_toList]; exact hv)
          refine ⟨ns[i], t, List.getElem?_eq_getElem hi, ?_⟩
          rw [e, List.getD_eq_getElem?_getD, List.getElem?_eq_getElem hi] <;> rfl
        refine set_update_strs ((Walks.tuple hh3 _ l hneI items).toS) s.heap.objs.size
          hSf ns hisz hb hval (items.size - 0) 0 _ (by omega) (Nat.zero_le _)
          ⟨⟨_, Heap.get?_push_size _ rfl, rfl, rfl⟩, (hl1.push _)⟩ ?hS0 ?hR
        case hS0 =>
          have hget : ((s.heap.push { cls := .type "set", dict := none, data := .set #[] 0 (.fresh 0 0 (!w.params.followText "set-order")) }).push { cls := .type "tuple_iterator", data := .fields #[.ref l, .int 0 0] }).get? s.heap.objs.size
              = some { cls := .type "set", dict := none, data := .set #[] 0 (.fresh 0 0 (!w.params.followText "set-order")) } := Heap.get?_push_of_some _ hS
          exact ⟨0, Nat.le_refl 0, setS_new_at hget⟩
        case hR =>
          intro s' c' hm hc' hS'
          obtain ⟨h', g2, d', tk', os'⟩ := s'
          have eg : g2 = s.gens := hm.gens
          have ed : d' = s.drawn := hm.drawn
          have eo : os' = s.os := hm.os
          subst eg; subst ed; subst eo
          show wpAny _ _ _ _ _ _
          refine wpAny_pure ?_
          show wpAny _ _ (ret Value.none) _ _ _
          rw [hisz] at hc'
          refine wpAny_pure ⟨rfl, h', tk', c', rfl, hS', hc', fun b o e => ?_⟩
          have hb0 : b < s.heap.objs.size := Heap.lt_size e
          have hb1 : b ≠ s.heap.objs.size := Nat.ne_of_lt hb0
          have hb2 : b ≠ (s.heap.push { cls := .type "set", dict := none, data := .set #[] 0 (.fresh 0 0 (!w.params.followText "set-order")) }).objs.size := by
            rw [Heap.size_push]; exact Nat.ne_of_lt (Nat.lt_succ_of_lt hb0)
          exact hm.heap b o (by simp only [List.mem_cons, List.mem_singleton, List.not_mem_nil, or_false, not_or]; exact ⟨hb1, hb2⟩) (Heap.get?_push_of_some _ (Heap.get?_push_of_some _ e))
      · cases r₂ with
        | error e => exact hr₂
        | ok fl₂ =>
          cases fl₂ with
          | ret r =>
            obtain ⟨rfl, h', tk, c', rfl, hS', hc', hk'⟩ := hr₂
            repeat (any_goals (first | assumption | wp_step))
            exact h _ _ _ hS' hc' hk'
          | _ => exact hr₂.elim
    | _ => exact hr.elim
end
end Zs
namespace Tk
open PySem L2
abbrev D := PyData
/-- what a name of the frame holds: data, a list of its own, the drawing's state -/
inductive Slot where
  | val (d : D)
  | own (ds : List D)
  | st
abbrev Dl := List (Option Slot)
/-- an exception: its class by name, what it was made of -/
structure Exc where
  cls : Str
  args : List D
/-- operations on one, on two things of data -/
inductive Op1 where
  | len | all | any | sum | sorted | tuple | list | repr | isN | notN | notV | neg | max0 | int | rev | dset | setlen | dictP | sortset | str
  | isi (ts : List Str)
  | cut (lo hi : Bool)
  | revto (n : Nat)
deriving DecidableEq
inductive Op2 where
  | add | sub | mul | fdiv | mod | pow
  | eq | ne | lt | le | gt | ge | inn | nin
  | ix | split | join | index | max2 | min2 | dzip | indexT | indexS
deriving DecidableEq
/-- targets -/
inductive Tg where
  | name (i : Nat)
  | nil
  | cons (t u : Tg)
  | tup (t : Tg)
/-- expressions (nil, cons: lists of them; pair: of two) -/
inductive CE where
  | const (d : D)
  | var (i : Nat)
  | glob (x : Str)
  | nil
  | cons (a r : CE)
  | tup (r : CE)
  | lst (r : CE)
  | op1 (o : Op1) (a : CE)
  | op2 (o : Op2) (a b : CE)
  | slc (a : CE) (lo hi : CE)
  | nopart
  | chain (o o' : Op2) (a b c : CE)
  | and_ (a r : CE)
  | or_ (a r : CE)
  | not_ (a : CE)
  | ifx (c a b : CE)
  | call (f : Nat) (r : CE)
  | comp (own : List Nat) (e : CE) (t : Tg) (it : CE) (ifs : CE)
  | iter (a : CE)
  | range1 (a : CE)
  | range2 (a b : CE)
  | zip2 (a b : CE)
  | zip2s (a b : CE)
  | enum (a : CE)
  | dset (i : Nat) (a : CE)
  | comp2 (own own2 : List Nat) (e : CE) (t : Tg) (it : CE) (t2 : Tg) (it2 : CE) (ifs : CE)
  | disp (ks : List Str) (r : CE)
  | getG (x : Str) (a : CE)
  | inG (neg : Bool) (a : CE) (x : Str)
inductive CS where
  | nop
  | seq (a b : CS)
  | expr (e : CE)
  | ret (e : CE)
  | retO (e : CE)
  | retV (i : Nat)
  | retN
  | asg (t : Tg) (e : CE)
  | asgO (i : Nat) (e : CE)
  | par (is : List Nat) (es : CE)
  | app (i : Nat) (e : CE)
  | frz (i : Nat)
  | ite (c : CE) (a b : CS)
  | for_ (t : Tg) (it : CE) (b : CS)
  | while_ (c : CE) (b : CS)
  | brk
  | cnt
  | never
/-! ### what the operations do -/
def wordLe (a b : Str) : Bool := decide (a.cps.toList ≤ b.cps.toList)
def ltS (a b : Str) : Bool := decide (a.cps.toList < b.cps.toList)
def atD (xs : List D) (i : Int) : Option D := atI xs i
def lenD : D → Option Nat
  | .str x => some x.length
  | .list xs => some xs.length
  | .tuple xs => some xs.length
  | _ => none
def boolsD : List D → Option (List Bool)
  | [] => some []
  | .bool b :: r => (boolsD r).map (b :: ·)
  | _ => none
def intsD : List D → Option (List Int)
  | [] => some []
  | .int i :: r => (intsD r).map (i :: ·)
  | _ => none
def strsD : List D → Option (List Str)
  | [] => some []
  | .str x :: r => (strsD r).map (x :: ·)
  | _ => none
def isiD (t : Str) : D → Bool
  | .none => decide (t = "NoneType")
  | .bool _ => decide (t = "bool") || decide (t = "int")
  | .int _ => decide (t = "int")
  | .str _ => decide (t = "str")
  | .list _ => decide (t = "list")
  | .tuple _ => decide (t = "tuple")
  | .dict _ => decide (t = "dict")
def kD : Key → D
  | .inl i => .int i
  | .inr x => .str x
def inD (d : D) (xs : List D) : Bool := xs.any fun y => PyData.eqv y d
def allShaped (xs : List D) : Bool := xs.all SeqAt.shaped
def chars (x : Str) : List D := x.cps.toList.map fun c => .str ⟨#[c]⟩
def itemsD : D → Option (List D)
  | .list xs => some xs
  | .tuple xs => some xs
  | .str x => some (chars x)
  | _ => none
def cutD {α : Type} (xs : List α) (lo hi : Option Int) : List α := (xs.drop (HT.sIx xs.length 0 lo)).take (HT.sIx xs.length xs.length hi - HT.sIx xs.length 0 lo)
def firstAt (d : D) : List D → Option Nat
  | [] => none
  | x :: r => if PyData.eqv x d then some 0 else (firstAt d r).map (· + 1)
def isDictD : D → Bool
  | .dict _ => true
  | _ => false
def isNoneD : D → Bool
  | .none => true
  | _ => false
/-- may be sorted -/
def tupNE : D → Bool
  | .tuple (_ :: _) => true
  | _ => false
def noTup : D → Bool
  | .none => false
  | .tuple _ => false
  | _ => true
def sortOk (xs : List D) : Bool := allShaped xs && (xs.all fun d => xs.all fun e => PySem.W.alike d e) && (xs.all tupNE || xs.all noTup)
def sortD (xs : List D) : List D := xs.mergeSort (PySem.W.dataLe false id)
def leS (a b : Str) : Bool := decide (a.cps.toList ≤ b.cps.toList)
def sortS (xs : List Str) : List Str := xs.mergeSort leS
def maxI : List Int → Int
  | [] => 0
  | x :: r => r.foldl (fun a y => if a < y then y else a) x
/-! dicts: keys are texts and numbers; {x: True for x in rows}: keys are tuples of these, told as one entry under None -/
def keyOf : D → Option Key
  | .int i => some (.inl i)
  | .str x => some (.inr x)
  | _ => none
def keysOf : List D → Option (List Key)
  | [] => some []
  | d :: ds => (keyOf d).bind fun k => (keysOf ds).map (k :: ·)
def tupKey : D → Option (List Key)
  | .tuple ds => keysOf ds
  | _ => none
def tupKeys : List D → Option (List (List Key))
  | [] => some []
  | d :: ds => (tupKey d).bind fun k => (tupKeys ds).map (k :: ·)
def tD (k : List Key) : D := .tuple (k.map kD)
/-- each row once -/
abbrev ddK (ks : List (List Key)) : List (List Key) := @Zs.dd (List Key) instBEqOfDecidableEq ks
abbrev dsetD (ks : List (List Key)) : D := .dict [(.none, .list (ks.map tD))]
/-- the rows of such a thing -/
def dsetOf : D → Option (List D)
  | .dict [(.none, .list ks)] => some ks
  | _ => none
def lookD (es : List (D × D)) (k : Key) : Option D := (es.find? fun p => decide (keyOf p.1 = some k)).map (·.2)
def entsOk (es : List (D × D)) : Bool := es.all fun p => (keyOf p.1).isSome
/-- pairs of a text and a thing -/
def pairD : D → Option (Str × D)
  | .tuple [.str k, v] => some (k, v)
  | _ => none
def pairsD : List D → Option (List (Str × D))
  | [] => some []
  | d :: ds => (pairD d).bind fun p => (pairsD ds).map (p :: ·)
def dictD (ps : List (Str × D)) : D := .dict (ps.map fun p => (.str p.1, p.2))
def dictOfP (xs : List D) : Option D := (pairsD xs).bind fun ps => if (ps.map (·.1)).Nodup ∧ ps.length ≤ sizeLine then some (dictD ps) else none
def sem1 : Op1 → D → Option D
  | .len, d => (lenD d).map fun n => .int (n : Nat)
  | .all, .list xs => (boolsD xs).map fun bs => .bool (bs.all id)
  | .any, .list xs => (boolsD xs).map fun bs => .bool (bs.any id)
  | .sum, .list xs => (intsD xs).map fun is => .int is.sum
  | .tuple, .list xs => some (.tuple xs)
  | .tuple, .tuple xs => some (.tuple xs)
  | .list, .list xs => some (.list xs)
  | .list, .tuple xs => some (.list xs)
  | .repr, d => if d.showable = true ∧ d.hasDict = false ∧ d.depth ≤ 100 ∧ d.shown.length ≤ sizeLine then some (.str d.shown) else none
  | .isN, d => some (.bool (isNoneD d))
  | .notN, d => some (.bool (!isNoneD d))
  | .notV, .bool b => some (.bool (!b))
  | .neg, .int i => some (.int (-i))
  | .sorted, .list xs => if sortOk xs = true then some (.list (sortD xs)) else none
  | .sorted, .dict [(.none, .list xs)] => if sortOk xs = true ∧ xs.length ≤ 4000000 then some (.list (sortD xs)) else none
  | .dset, .list xs => (tupKeys xs).bind fun ks => if ks.length < sizeLine then some (dsetD (ddK ks)) else none
  | .dset, .tuple xs => (tupKeys xs).bind fun ks => if ks.length < sizeLine then some (dsetD (ddK ks)) else none
  | .setlen, .list xs => (strsD xs).bind fun ys => if ys.length ≤ 1000 then some (.int ((Zs.dd ys).length : Nat)) else none
  | .setlen, .tuple xs => (strsD xs).bind fun ys => if ys.length ≤ 1000 then some (.int ((Zs.dd ys).length : Nat)) else none
  | .sortset, .list xs => (strsD xs).bind fun ys => if ys.length ≤ 1000 then some (.list ((sortS (Zs.dd ys)).map .str)) else none
  | .dictP, .list xs => dictOfP xs
  | .dictP, .tuple xs => dictOfP xs
  | .max0, .list xs => (intsD xs).map fun is => .int (maxI is)
  | .int, .bool b => some (.int (if b then 1 else 0))
  | .int, .int i => some (.int i)
  | .int, .str z => if z.length ≤ 640 then (PySem.intText? z).map .int else none
  | .str, .int i => if i.natAbs.log2 < 1920 ∧ (Str.ofString (toString i)).length ≤ sizeLine then some (.str (Str.ofString (toString i))) else none
  | .revto n, .list xs => if n = 9 ∧ xs.length = 12 then some (.list (xs.drop 10).reverse) else none
  | .rev, .list xs => some (.list xs.reverse)
  | .rev, .tuple xs => some (.tuple xs.reverse)
  | .isi ts, d => if (dsetOf d).isSome = true then none else some (.bool (ts.any fun t => isiD t d))
  | _, _ => none
def bothS : D → D → Bool
  | .str _, .str _ => true
  | _, _ => false
def sem2 : Op2 → D → D → Option D
  | .add, .int i, .int j => some (.int (i + j))
  | .add, .str x, .str y => if x.length + y.length ≤ sizeLine then some (.str (x ++ y)) else none
  | .add, .list x, .list y => if x.length + y.length ≤ sizeLine then some (.list (x ++ y)) else none
  | .add, .tuple x, .tuple y => if x.length + y.length ≤ sizeLine then some (.tuple (x ++ y)) else none
  | .sub, .int i, .int j => some (.int (i - j))
  | .mul, .tuple xs, .int j => if 1 ≤ j ∧ j ≤ 1000 ∧ xs.isEmpty = false ∧ xs.length ≤ 1000 then some (.tuple (List.replicate j.toNat xs).flatten) else none
  | .mul, .int i, .int j => if ((-(2 ^ 64) < i ∧ i < 2 ^ 64) ∨ (-(2 ^ 64) < j ∧ j < 2 ^ 64)) ∨ i.natAbs.log2 + j.natAbs.log2 < 1000000 then some (.int (i * j)) else none
  | .fdiv, .int i, .int j => if j ≠ 0 ∧ j.natAbs < 1073741824 then some (.int (i.fdiv j)) else none
  | .mod, .int i, .int j => if j ≠ 0 then some (.int (i.fmod j)) else none
  | .pow, .int i, .int j => if (0 ≤ j ∧ j ≤ 1000000 ∧ i.natAbs < 2 ^ 64) ∨ (0 ≤ j ∧ j ≤ 1000 ∧ i.natAbs < 2 ^ 1000) then some (.int (i ^ j.toNat)) else none
  | .eq, x, y => if bothS x y = true ∨ (SeqAt.shaped x = true ∧ SeqAt.shaped y = true) then some (.bool (PyData.eqv x y)) else none
  | .ne, x, y => if bothS x y = true ∨ (SeqAt.shaped x = true ∧ SeqAt.shaped y = true) then some (.bool (!PyData.eqv x y)) else none
  | .lt, .int i, .int j => some (.bool (decide (i < j)))
  | .le, .int i, .int j => some (.bool (decide (i ≤ j)))
  | .gt, .int i, .int j => some (.bool (decide (j < i)))
  | .ge, .int i, .int j => some (.bool (decide (j ≤ i)))
  | .lt, .str x, .str y => some (.bool (ltS x y))
  | .lt, .tuple x, .tuple y => if PySem.W.alike (.tuple x) (.tuple y) = true ∧ SeqAt.shaped (.tuple x) = true ∧ SeqAt.shaped (.tuple y) = true then some (.bool (PySem.W.dataLt (.tuple x) (.tuple y))) else none
  | .inn, .str c, .str z => match c.cps.toList with
    | [n] => some (.bool (decide (n ∈ z.cps.toList)))
    | _ => none
  | .nin, .str c, .str z => match c.cps.toList with
    | [n] => some (.bool (!decide (n ∈ z.cps.toList)))
    | _ => none
  | .inn, x, .list ys => if SeqAt.shaped x = true ∧ allShaped ys = true then some (.bool (inD x ys)) else none
  | .inn, x, .tuple ys => if SeqAt.shaped x = true ∧ allShaped ys = true then some (.bool (inD x ys)) else none
  | .nin, x, .list ys => if SeqAt.shaped x = true ∧ allShaped ys = true then some (.bool (!inD x ys)) else none
  | .nin, x, .tuple ys => if SeqAt.shaped x = true ∧ allShaped ys = true then some (.bool (!inD x ys)) else none
  | .inn, x, .dict es => match dsetOf (.dict es) with
    | some ks => (tupKey x).map fun k => .bool ((ks.any fun y => decide (tupKey y = some k)))
    | none => if entsOk es = true then (keyOf x).map fun k => .bool (lookD es k).isSome else none
  | .nin, x, .dict es => match dsetOf (.dict es) with
    | some ks => (tupKey x).map fun k => .bool (!(ks.any fun y => decide (tupKey y = some k)))
    | none => if entsOk es = true then (keyOf x).map fun k => .bool (!(lookD es k).isSome) else none
  | .ix, .dict es, x => if entsOk es = true then (keyOf x).bind fun k => lookD es k else none
  | .dzip, .tuple xs, .tuple ys => (strsD xs).bind fun ks => if ks.Nodup ∧ ks.length = ys.length then some (dictD (ks.zip ys)) else none
  | .indexT, .tuple xs, .str x => (strsD xs).bind fun ys => (ys.findIdx? (· == x)).map fun n => .int (n : Nat)
  | .indexS, .str a, .str b => (Builtin.Str.occurrences a b 0 a.length 1).head?.map fun i => .int (i : Nat)
  | .ix, .list xs, .int i => atI xs i
  | .ix, .tuple xs, .int i => atI xs i
  | .ix, .str x, .int i => (atI x.cps.toList i).map fun c => .str ⟨#[c]⟩
  | .split, .str a, .str b => if b.length ≠ 0 ∧ a.length + 2 ≤ sizeLine ∧ ((Txt.split a b).all fun y => decide (y.length ≤ sizeLine)) = true then some (.list ((Txt.split a b).map .str)) else none
  | .join, .str a, .list xs => (strsD xs).bind fun ys => if (ys.map (·.length)).sum + ys.length * a.length ≤ 16777216 ∧ (Txt.join a ys).length ≤ sizeLine then some (.str (Txt.join a ys)) else none
  | .join, .str a, .tuple xs => (strsD xs).bind fun ys => if (ys.map (·.length)).sum + ys.length * a.length ≤ 16777216 ∧ (Txt.join a ys).length ≤ sizeLine then some (.str (Txt.join a ys)) else none
  | .max2, .int i, .int j => some (.int (if j > i then j else i))
  | .min2, .int i, .int j => some (.int (if j < i then j else i))
  | .index, .list xs, x => if SeqAt.shaped x = true ∧ SeqAt.shaped (.list xs) = true then (firstAt x xs).map fun n => .int (n : Nat) else none
  | _, _, _ => none
/-- what a method is asked of -/
def recv : Op2 → D → Bool
  | .split, .str _ => true
  | .join, .str _ => true
  | .index, .list _ => true
  | .indexT, .tuple _ => true
  | .indexT, _ => false
  | .indexS, .str _ => true
  | .indexS, _ => false
  | .split, _ => false
  | .join, _ => false
  | .index, _ => false
  | _, _ => true
def semSl : D → Option Int → Option Int → Option D
  | .list xs, lo, hi => some (.list (cutD xs lo hi))
  | .tuple xs, lo, hi => some (.tuple (cutD xs lo hi))
  | .str x, lo, hi => some (.str (cutS x lo hi))
  | _, _, _ => none
def truthD : D → Option Bool
  | .none => some false
  | .bool b => some b
  | .int i => some (i != 0)
  | .str x => some ((x.length : Int) != 0)
  | .list xs => some (!xs.isEmpty)
  | .tuple xs => some (!xs.isEmpty)
  | .dict _ => none
/-! ### what the code does -/
abbrev KX := Exc → Prop
structure Cfg where
  call : Nat → List Slot → (Slot → Prop) → KX → Prop
  glob : Str → Option D
abbrev NX : KX := fun _ => False
def slotD : Slot → Option D
  | .val d => some d
  | .own ds => some (.list ds)
  | .st => none
def valsD : List Slot → Option (List D)
  | [] => some []
  | .val d :: r => (valsD r).map (d :: ·)
  | _ => none
def wipeD (δ : Dl) : List Nat → Dl
  | [] => δ
  | v :: vs => (wipeD δ vs).set v none
/-! a target takes a thing; a list of targets takes a list of things -/
mutual
def bindT : Tg → D → Dl → (Dl → Prop) → Prop
  | .name i, d, δ, k => i < δ.length ∧ k (δ.set i (some (.val d)))
  | .tup t, .tuple ds, δ, k => bindTs t ds δ k
  | _, _, _, _ => False
def bindTs : Tg → List D → Dl → (Dl → Prop) → Prop
  | .nil, [], δ, k => k δ
  | .cons t u, d :: ds, δ, k => bindT t d δ fun δ' => bindTs u ds δ' k
  | _, _, _, _ => False
end
def loopC (bd : D → List D → (List D → Prop) → Prop) : List D → List D → (List D → Prop) → Prop
  | [], acc, k => k acc
  | x :: xs, acc, k => bd x acc fun acc' => loopC bd xs acc' k
def rangeD (lo hi : Int) : List D := (List.range (hi - lo).toNat).map fun i => .int (lo + (i : Nat))
def zipD (xs ys : List D) : List D := (xs.zip ys).map fun p => .tuple [p.1, p.2]
def enumD (xs : List D) : List D := xs.zipIdx.map fun p => .tuple [.int (p.2 : Nat), p.1]
mutual
/-- the value (rd: it is only read, so a list of a name's own may be meant) -/
def ev (C : Cfg) (rd : Bool) : CE → Dl → (D → Prop) → KX → Prop
  | .const d, _, k, _ => k d
  | .var i, δ, k, _ => match δ[i]? with
    | some (some (.val d)) => k d
    | some (some (.own ds)) => rd = true ∧ k (.list ds)
    | _ => False
  | .glob x, _, k, _ => ∃ d, C.glob x = some d ∧ isDictD d = false ∧ k d
  | .tup r, δ, k, x => evA C r δ (fun ss => ∃ ds, valsD ss = some ds ∧ ds.length ≤ sizeLine ∧ k (.tuple ds)) x
  | .lst r, δ, k, x => evA C r δ (fun ss => ∃ ds, valsD ss = some ds ∧ ds.length ≤ sizeLine ∧ k (.list ds)) x
  | .op1 o a, δ, k, x => ev C true a δ (fun d => ∃ r, sem1 o d = some r ∧ k r) x
  | .op2 o a b, δ, k, x => ev C true a δ (fun d => recv o d = true ∧ ev C true b δ (fun e => ∃ r, sem2 o d e = some r ∧ k r) x) x
  | .slc a lo hi, δ, k, x => ev C true a δ (fun d => evP C lo δ (fun l => evP C hi δ (fun h => ∃ r, semSl d l h = some r ∧ k r) x) x) x
  | .chain o o' a b c, δ, k, x => ev C true a δ (fun d => ev C true b δ (fun e => ∃ z, sem2 o d e = some (.bool z) ∧
      if z = true then ev C true c δ (fun f => ∃ r, sem2 o' e f = some r ∧ k r) x else k (.bool false)) x) x
  | .and_ a r, δ, k, x => ev C false a δ (fun d => ∃ b, d = .bool b ∧ if b = true then ev C false r δ k x else k (.bool false)) x
  | .or_ a r, δ, k, x => ev C false a δ (fun d => ∃ b, d = .bool b ∧ if b = true then k (.bool true) else ev C false r δ k x) x
  | .not_ a, δ, k, x => ev C true a δ (fun d => ∃ b, d = .bool b ∧ k (.bool (!b))) x
  | .ifx c a b, δ, k, x => evT C c δ (fun z => if z = true then ev C rd a δ k x else ev C rd b δ k x) x
  | .call f r, δ, k, x => evA C r δ (fun ss => C.call f ss (fun s => ∃ d, slotD s = some d ∧ k d) x) x
  | .comp own e t it ifs, δ, k, x => evI C true it δ (fun xs => loopC (fun y acc k' => bindT t y (wipeD δ own) fun δ1 => evT C ifs δ1 (fun b =>
      if b = true then ev C false e δ1 (fun d => acc.length < sizeLine ∧ k' (acc ++ [d])) NX else k' acc) NX) xs [] fun acc => k (.list acc)) x
  | .comp2 own own2 e t it t2 it2 ifs, δ, k, x => evI C true it δ (fun xs => loopC (fun y acc k' => bindT t y (wipeD δ own) fun δ1 => evI C false it2 δ1 (fun ys => loopC (fun z acc k2 => bindT t2 z (wipeD δ1 own2) fun δ2 => evT C ifs δ2 (fun b =>
      if b = true then ev C false e δ2 (fun d => acc.length < sizeLine ∧ k2 (acc ++ [d])) NX else k2 acc) NX) ys acc k') NX) xs [] fun acc => k (.list acc)) x
  | .dset i a, δ, k, x => i < δ.length ∧ ev C true a δ (fun d => ∃ r, sem1 .dset d = some r ∧ k r) x
  | .disp ks r, δ, k, x => evV C r δ (fun ds => ds.length = ks.length ∧ ks.length ≤ 15 ∧ ks.Nodup ∧ k (dictD (ks.zip ds))) x
  | .getG y a, δ, k, x => ∃ es, C.glob y = some (.dict es) ∧ ev C true a δ (fun d => ∃ z v, d = .str z ∧ lookD es (.inr z) = some v ∧ k v) x
  | .inG neg a y, δ, k, x => ∃ es, C.glob y = some (.dict es) ∧ ev C true a δ (fun d => ∃ z, d = .str z ∧ k (.bool (if neg then !(lookD es (.inr z)).isSome else (lookD es (.inr z)).isSome))) x
  | _, _, _, _ => False
/-- a part of a slice -/
def evP (C : Cfg) : CE → Dl → (Option Int → Prop) → KX → Prop
  | .nopart, _, k, _ => k none
  | .cons a .nil, δ, k, x => ev C true a δ (fun d => ∃ i, d = .int i ∧ k (some i)) x
  | _, _, _, _ => False
/-- several values -/
def evV (C : Cfg) : CE → Dl → (List D → Prop) → KX → Prop
  | .nil, _, k, _ => k []
  | .cons a r, δ, k, x => ev C false a δ (fun d => evV C r δ (fun ds => k (d :: ds)) x) x
  | _, _, _, _ => False
/-- the arguments -/
def evA (C : Cfg) : CE → Dl → (List Slot → Prop) → KX → Prop
  | .nil, _, k, _ => k []
  | .cons (.var i) r, δ, k, x => match δ[i]? with
    | some (some (.val d)) => evA C r δ (fun ss => k (.val d :: ss)) x
    | some (some .st) => evA C r δ (fun ss => k (.st :: ss)) x
    | _ => False
  | .cons a r, δ, k, x => ev C false a δ (fun d => evA C r δ (fun ss => k (.val d :: ss)) x) x
  | _, _, _, _ => False
/-- a test -/
def evT (C : Cfg) : CE → Dl → (Bool → Prop) → KX → Prop
  | .nil, _, k, _ => k true
  | .and_ a r, δ, k, x => evT C a δ (fun b => if b = true then evT C r δ k x else k false) x
  | .or_ a r, δ, k, x => evT C a δ (fun b => if b = true then k true else evT C r δ k x) x
  | .not_ a, δ, k, x => evT C a δ (fun b => k (!b)) x
  | .op1 o a, δ, k, x => ev C true a δ (fun d => ∃ b, sem1 o d = some (.bool b) ∧ k b) x
  | .op2 o a b, δ, k, x => ev C true a δ (fun d => recv o d = true ∧ ev C true b δ (fun e => ∃ z, sem2 o d e = some (.bool z) ∧ k z) x) x
  | .chain o o' a b c, δ, k, x => ev C true a δ (fun d => ev C true b δ (fun e => ∃ z, sem2 o d e = some (.bool z) ∧
      if z = true then ev C true c δ (fun f => ∃ z, sem2 o' e f = some (.bool z) ∧ k z) x else k false) x) x
  | .var i, δ, k, _ => match δ[i]? with
    | some (some (.val (.bool b))) => k b
    | _ => False
  | .call f r, δ, k, x => evA C r δ (fun ss => C.call f ss (fun s => ∃ d, slotD s = some d ∧ ∃ b, d = .bool b ∧ k b) x) x
  | .inG neg a y, δ, k, x => ∃ es, C.glob y = some (.dict es) ∧ ev C true a δ (fun d => ∃ z, d = .str z ∧ k (if neg then !(lookD es (.inr z)).isSome else (lookD es (.inr z)).isSome)) x
  | .const (.bool b), _, k, _ => k b
  | _, _, _, _ => False
/-- what is walked -/
def evI (C : Cfg) (rd : Bool) : CE → Dl → (List D → Prop) → KX → Prop
  | .iter a, δ, k, x => ev C rd a δ (fun d => ∃ xs, itemsD d = some xs ∧ k xs) x
  | .range1 a, δ, k, x => ev C rd a δ (fun d => ∃ n, d = .int n ∧ (-(2 ^ 62) ≤ n ∧ n < 2 ^ 62) ∧ k (rangeD 0 n)) x
  | .range2 a b, δ, k, x => ev C rd a δ (fun d => ev C rd b δ (fun e => ∃ m n, d = .int m ∧ e = .int n ∧ (-(2 ^ 62) ≤ m ∧ m < 2 ^ 62 ∧ -(2 ^ 62) ≤ n ∧ n < 2 ^ 62) ∧ k (rangeD m n)) x) x
  | .zip2 a b, δ, k, x => ev C rd a δ (fun d => ev C rd b δ (fun e => ∃ xs ys, (d = .list xs ∧ e = .list ys ∨ d = .tuple xs ∧ e = .tuple ys) ∧ k (zipD xs ys)) x) x
  | .zip2s a b, δ, k, x => ev C rd a δ (fun d => ev C rd b δ (fun e => ∃ xs ys, (d = .list xs ∧ e = .list ys ∨ d = .tuple xs ∧ e = .tuple ys) ∧ xs.length = ys.length ∧ k (zipD xs ys)) x) x
  | .enum a, δ, k, x => ev C rd a δ (fun d => ∃ xs, d = .list xs ∧ k (enumD xs)) x
  | _, _, _, _ => False
end
/-- one turn of a comprehension -/
def compB (C : Cfg) (own : List Nat) (e : CE) (t : Tg) (ifs : CE) (δ : Dl) : D → List D → (List D → Prop) → Prop := fun y acc k' => bindT t y (wipeD δ own) fun δ1 => evT C ifs δ1 (fun b =>
  if b = true then ev C false e δ1 (fun d => acc.length < sizeLine ∧ k' (acc ++ [d])) NX else k' acc) NX
theorem ev_comp {C : Cfg} {rd : Bool} {own : List Nat} {e it ifs : CE} {t : Tg} {δ : Dl} {k : D → Prop} {x : KX} :
    ev C rd (.comp own e t it ifs) δ k x = evI C true it δ (fun xs => loopC (compB C own e t ifs δ) xs [] fun acc => k (.list acc)) x := by
  simp only [ev]; rfl
/-- a list of one's own, where it is made anew -/
def toOwn : D → Slot
  | .list ds => .own ds
  | d => .val d
def evO (C : Cfg) : CE → Dl → (Slot → Prop) → KX → Prop
  | .call f r, δ, k, x => evA C r δ (fun ss => C.call f ss k x) x
  | .lst r, δ, k, x => ev C false (.lst r) δ (fun d => k (toOwn d)) x
  | .comp own e t it ifs, δ, k, x => ev C false (.comp own e t it ifs) δ (fun d => k (toOwn d)) x
  | c, δ, k, x => ev C false c δ (fun d => k (.val d)) x
structure En where
  nx : Dl → Prop
  rt : Slot → Prop
  bk : Dl → Prop
  ct : Dl → Prop
  xc : Exc → Dl → Prop
def loopS (bd : D → Dl → En → Prop) : List D → Dl → En → Prop
  | [], δ, E => E.nx δ
  | x :: xs, δ, E => bd x δ { E with nx := fun δ' => loopS bd xs δ' E, ct := fun δ' => loopS bd xs δ' E, bk := E.nx }
def setAll (δ : Dl) : List Nat → List Slot → Option Dl
  | [], [] => some δ
  | i :: is, s :: ss => if i < δ.length then setAll (δ.set i (some s)) is ss else none
  | _, _ => none
/-- several things, each its own -/
def evOs (C : Cfg) : CE → Dl → (List Slot → Prop) → KX → Prop
  | .nil, _, k, _ => k []
  | .cons a r, δ, k, x => evO C a δ (fun s => evOs C r δ (fun ss => k (s :: ss)) x) x
  | _, _, _, _ => False
/-- so many turns at most -/
def loopW (test : Dl → (Bool → Prop) → KX → Prop) (bd : Dl → En → Prop) : Nat → Dl → En → Prop
  | 0, _, _ => False
  | n + 1, δ, E => test δ (fun z => if z = true then bd δ { E with nx := fun δ' => loopW test bd n δ' E, ct := fun δ' => loopW test bd n δ' E, bk := E.nx } else E.nx δ) fun x => E.xc x δ
def ex (C : Cfg) : CS → Dl → En → Prop
  | .nop, δ, E => E.nx δ
  | .seq a b, δ, E => ex C a δ { E with nx := fun δ' => ex C b δ' E }
  | .expr e, δ, E => ev C false e δ (fun _ => E.nx δ) fun x => E.xc x δ
  | .ret e, δ, E => ev C false e δ (fun d => E.rt (.val d)) fun x => E.xc x δ
  | .retO e, δ, E => evO C e δ E.rt fun x => E.xc x δ
  | .retV i, δ, E => match δ[i]? with
    | some (some s) => E.rt s
    | _ => False
  | .retN, _, E => E.rt (.val .none)
  | .asg t e, δ, E => ev C false e δ (fun d => bindT t d δ E.nx) fun x => E.xc x δ
  | .asgO i e, δ, E => evO C e δ (fun s => i < δ.length ∧ E.nx (δ.set i (some s))) fun x => E.xc x δ
  | .par is es, δ, E => evOs C es δ (fun ss => ∃ δ', setAll δ is ss = some δ' ∧ E.nx δ') fun x => E.xc x δ
  | .app i e, δ, E => match δ[i]? with
    | some (some (.own ds)) => ev C false e δ (fun d => ds.length < sizeLine ∧ E.nx (δ.set i (some (.own (ds ++ [d]))))) fun x => E.xc x δ
    | _ => False
  | .frz i, δ, E => match δ[i]? with
    | some (some (.own ds)) => E.nx (δ.set i (some (.val (.list ds))))
    | _ => E.nx δ
  | .ite c a b, δ, E => evT C c δ (fun z => if z = true then ex C a δ E else ex C b δ E) fun x => E.xc x δ
  | .for_ t it b, δ, E => evI C false it δ (fun xs => loopS (fun y δ' E' => bindT t y δ' fun δ1 => ex C b δ1 E') xs δ E) fun x => E.xc x δ
  | .while_ c b, δ, E => ∃ n, loopW (evT C c) (ex C b) n δ E
  | .brk, δ, E => E.bk δ
  | .cnt, δ, E => E.ct δ
  | .never, _, _ => False
end Tk
namespace Tk
open PySem L2
def kGreat : Str := "great"
def kSmall : Str := "small"
def kAt : Str := "at"
def stKvs (gl : Addr) (sm at_ : Int) : List (Key × V) := [(Sum.inr kGreat, .ref gl), (Sum.inr kSmall, .int sm), (Sum.inr kAt, .int at_)]
/-- the state stands at am, its great cells at gl -/
def StW (am gl : Addr) (H : Hp) : Prop := ∃ (ns : List Int) (sm at_ : Int), H am = some (.dK (stKvs gl sm at_)) ∧ H gl = some (.lst (ns.map V.int))
def StOk (M : Addr → Prop) (W : Hp → Prop) (sv : V) : Prop := sv = .non ∨ ∃ am gl, am ≠ gl ∧ sv = .ref am ∧ (M = fun b => b = am ∨ b = gl) ∧ W = StW am gl
end Tk
namespace Tk
open PySem L2
/-- the module's part, the program, the world -/
structure KW where
  K : PySem.W.Frag
  P : Program
  w : World
instance : Coe KW PySem.W.Frag := ⟨KW.K⟩
abbrev kwOf (X : Cx) : KW := ⟨X.K, X.prog, X.w⟩
/-- a tuple whose object is known, and has no dict -/
def TupP (H : Hp) (a : Addr) (xs : List V) : Prop := ∃ o : Obj, H a = some (.frz o (.tup xs)) ∧ o.dict = none
theorem TupP.sq {K : PySem.W.Frag} {H : Hp} {a : Addr} {xs : List V} (h : TupP H a xs) : SqT K H a xs := by
  obtain ⟨o, h, _⟩ := h
  exact .inl (.inr ⟨o, h⟩)
/-- at a: a dict whose keys are the tuples of xs -/
def DsAt (K : KW) (h : Heap) (a : Addr) (xs : List (List Key × Addr × Value)) : Prop := xs.length ≤ sizeLine ∧ (a == sysModules) = false ∧ ∃ o es ep, h.get? a = some o ∧ o.ExactDict ∧ o.data = .dict es ep ∧
  es.toList = xs.map (entryOfKey (tupleKind (mixKind K.P K.w))) ∧ (xs.map (·.1)).Nodup
def DsO (K : KW) (a : Addr) (xs : List (List Key × Addr × Value)) : HO := .ext fun h => DsAt K h a xs
/-- a list that is read: tracked and not in O, or the module's own -/
def SqO (K : KW) (H : Hp) (O : Addr → Prop) (a : Addr) (xs : List V) : Prop :=
  (Rd H a (.lst xs) ∧ ¬ O a) ∨
    ∃ (o : Obj) (its : Array Value) (n : Nat), K.K.lookup a = some o ∧ o.cls = .type "list" ∧ o.dict = none ∧ o.data = .seq its n ∧ its.size ≤ sizeLine ∧ Vals xs its.toList
theorem SqO.sq {K H O a xs} (h : SqO K H O a xs) : SqL K H a xs := by
  rcases h with h | h
  · exact .inl h.1
  · exact .inr h
mutual
inductive Rep (K : KW) (H : Hp) (O : Addr → Prop) : V → D → Prop
  | non : Rep K H O .non .none
  | bl (b : Bool) : Rep K H O (.bl b) (.bool b)
  | int (i : Int) : Rep K H O (.int i) (.int i)
  | str (x : Str) : x.length ≤ sizeLine → Rep K H O (.str x) (.str x)
  | lst {a : Addr} {xs : List V} {ds : List D} : SqO K H O a xs → Reps K H O xs ds → Rep K H O (.ref a) (.list ds)
  | tup {a : Addr} {xs : List V} {ds : List D} : TupP H a xs → Reps K H O xs ds → Rep K H O (.ref a) (.tuple ds)
  | dct {a : Addr} {kvs : List (Key × V)} {ds : List (D × D)} : H a = some (.dK kvs) → ¬ O a → RepsK K H O kvs ds → Rep K H O (.ref a) (.dict ds)
  | dst {a : Addr} {xs : List (List Key × Addr × Value)} : H a = some (DsO K a xs) → ¬ O a → (∀ q ∈ xs, TupP H q.2.1 (q.1.map kV) ∧ ∀ x, Sum.inr x ∈ q.1 → x.length ≤ sizeLine) → Rep K H O (.ref a) (dsetD (xs.map (·.1)))
inductive Reps (K : KW) (H : Hp) (O : Addr → Prop) : List V → List D → Prop
  | nil : Reps K H O [] []
  | cons {v : V} {vs : List V} {d : D} {ds : List D} : Rep K H O v d → Reps K H O vs ds → Reps K H O (v :: vs) (d :: ds)
inductive RepsK (K : KW) (H : Hp) (O : Addr → Prop) : List (Key × V) → List (D × D) → Prop
  | nil : RepsK K H O [] []
  | cons {k : Key} {v : V} {vs : List (Key × V)} {d : D} {ds : List (D × D)} : Rep K H O v d → RepsK K H O vs ds → RepsK K H O ((k, v) :: vs) ((kD k, d) :: ds)
end
section
variable {K : KW} {H H' : Hp} {O O' : Addr → Prop}
/-- from one heap to a later one: what isn't in O stays; what is new in O' was free -/
structure Ext (H H' : Hp) (O O' : Addr → Prop) : Prop where
  keep : ∀ b u, H b = some u → ¬ O b → H' b = some u
  new : ∀ b, O' b → O b ∨ H b = none
  tup : ∀ b xs, H b = some (.tup xs) → H' b = some (.tup xs)
  frz : ∀ b o u, H b = some (.frz o u) → H' b = some (.frz o u)
theorem SqO.ext {a xs} (x : Ext H H' O O') (h : SqO K H O a xs) : SqO K H' O' a xs := by
  rcases h with ⟨h, n⟩ | h
  · refine .inl ⟨?_, fun z => ?_⟩
    · rcases h with h | ⟨o, h⟩
      · exact .inl (x.keep _ _ h n)
      · exact .inr ⟨o, x.keep _ _ h n⟩
    · rcases x.new _ z with z | z
      · exact n z
      · rcases h with h | ⟨o, h⟩ <;> (rw [z] at h; cases h)
  · exact .inr h
theorem TupP.ext {a xs} (x : Ext H H' O O') (h : TupP H a xs) : TupP H' a xs := by
  obtain ⟨o, h, hd⟩ := h
  exact ⟨o, x.frz _ _ _ h, hd⟩
mutual
theorem Rep.ext (x : Ext H H' O O') : ∀ (d : D) (v : V), Rep K H O v d → Rep K H' O' v d
  | .none, _, h => by cases h; exact .non
  | .bool b, _, h => by cases h; exact .bl b
  | .int i, _, h => by cases h; exact .int i
  | .str s, _, h => by cases h with | str _ hl => exact .str _ hl
  | .list ds, _, h => by cases h with | lst h1 h2 => exact .lst (h1.ext x) (Reps.ext x ds _ h2)
  | .tuple ds, _, h => by cases h with | tup h1 h2 => exact .tup (h1.ext x) (Reps.ext x ds _ h2)
  | .dict ds, _, h => by
    generalize hd : PyData.dict ds = d at h
    cases h with
    | dct h1 h2 h3 =>
      cases hd
      refine .dct (x.keep _ _ h1 h2) (fun z => ?_) (RepsK.ext x ds _ h3)
      rcases x.new _ z with z | z
      · exact h2 z
      · rw [z] at h1; cases h1
    | dst h1 h2 h3 =>
      refine .dst (x.keep _ _ h1 h2) (fun z => ?_) (fun q hq => ⟨(h3 q hq).1.ext x, (h3 q hq).2⟩)
      rcases x.new _ z with z | z
      · exact h2 z
      · rw [z] at h1; cases h1
    | _ => cases hd
theorem Reps.ext (x : Ext H H' O O') : ∀ (ds : List D) (vs : List V), Reps K H O vs ds → Reps K H' O' vs ds
  | [], _, h => by cases h; exact .nil
  | d :: ds, _, h => by cases h with | cons h1 h2 => exact .cons (Rep.ext x d _ h1) (Reps.ext x ds _ h2)
theorem RepsK.ext (x : Ext H H' O O') : ∀ (ds : List (D × D)) (vs : List (Key × V)), RepsK K H O vs ds → RepsK K H' O' vs ds
  | [], _, h => by cases h; exact .nil
  | (k, d) :: ds, _, h => by cases h with | cons h1 h2 => exact .cons (Rep.ext x d _ h1) (RepsK.ext x ds _ h2)
end
theorem Ext.refl : Ext H H O O := ⟨fun _ _ h _ => h, fun _ h => .inl h, fun _ _ h => h, fun _ _ _ h => h⟩
theorem Ext.sub (h : ∀ b, O' b → O b) : Ext H H O O' := ⟨fun _ _ h _ => h, fun b z => .inl (h b z), fun _ _ h => h, fun _ _ _ h => h⟩
theorem Ext.same (s : Same H H') : Ext H H' O O := ⟨fun b u h _ => s b u h, fun _ h => .inl h, fun b xs h => s b _ h, fun b o u h => s b _ h⟩
theorem Reps.length : ∀ {vs : List V} {ds : List D}, Reps K H O vs ds → vs.length = ds.length
  | [], [], _ => rfl
  | [], _ :: _, h => by cases h
  | _ :: _, [], h => by cases h
  | _ :: _, _ :: _, h => by cases h with | cons _ h2 => simp [h2.length]
theorem Reps.get : ∀ {vs : List V} {ds : List D} {i : Nat} {v : V}, Reps K H O vs ds → vs[i]? = some v → ∃ d, ds[i]? = some d ∧ Rep K H O v d
  | [], _, _, _, _, e => by simp at e
  | _ :: _, [], _, _, h, _ => by cases h
  | _ :: _, _ :: _, 0, _, h, e => by
    cases h with | cons h1 h2 => simp at e; subst e; exact ⟨_, rfl, h1⟩
  | _ :: _, _ :: _, i + 1, v, h, e => by
    cases h with | cons h1 h2 =>
      obtain ⟨d, e1, e2⟩ := Reps.get (i := i) (v := v) h2 (by simpa using e)
      exact ⟨d, by simpa using e1, e2⟩
theorem Reps.get' : ∀ {vs : List V} {ds : List D} {i : Nat} {d : D}, Reps K H O vs ds → ds[i]? = some d → ∃ v, vs[i]? = some v ∧ Rep K H O v d
  | _, [], _, _, _, e => by simp at e
  | [], _ :: _, _, _, h, _ => by cases h
  | _ :: _, _ :: _, 0, _, h, e => by
    cases h with | cons h1 h2 => simp at e; subst e; exact ⟨_, rfl, h1⟩
  | _ :: _, _ :: _, i + 1, v, h, e => by
    cases h with | cons h1 h2 =>
      obtain ⟨d, e1, e2⟩ := Reps.get' (i := i) (d := v) h2 (by simpa using e)
      exact ⟨d, by simpa using e1, e2⟩
theorem Reps.append : ∀ {vs us : List V} {ds es : List D}, Reps K H O vs ds → Reps K H O us es → Reps K H O (vs ++ us) (ds ++ es)
  | [], _, [], _, _, h => h
  | [], _, _ :: _, _, h, _ => by cases h
  | _ :: _, _, [], _, h, _ => by cases h
  | _ :: _, _, _ :: _, _, h, h' => by cases h with | cons h1 h2 => exact .cons h1 (Reps.append h2 h')
theorem Reps.drop : ∀ (n : Nat) {vs : List V} {ds : List D}, Reps K H O vs ds → Reps K H O (vs.drop n) (ds.drop n)
  | 0, _, _, h => h
  | _ + 1, [], [], h => by simpa using h
  | _ + 1, [], _ :: _, h => by cases h
  | _ + 1, _ :: _, [], h => by cases h
  | n + 1, _ :: _, _ :: _, h => by cases h with | cons h1 h2 => exact Reps.drop n h2
theorem Reps.take : ∀ (n : Nat) {vs : List V} {ds : List D}, Reps K H O vs ds → Reps K H O (vs.take n) (ds.take n)
  | 0, _, _, h => by simpa using Reps.nil
  | _ + 1, [], [], h => by simpa using h
  | _ + 1, [], _ :: _, h => by cases h
  | _ + 1, _ :: _, [], h => by cases h
  | n + 1, _ :: _, _ :: _, h => by cases h with | cons h1 h2 => exact .cons h1 (Reps.take n h2)
end
/-- what is fixed while a def runs: the heap and the avoided addresses at its entry; the drawing's addresses, what holds of them, the value that stands for them -/
structure Gh where
  H0 : Hp
  O0 : Addr → Prop
  M : Addr → Prop
  W : Hp → Prop
  sv : V
structure Gh.Ok (Γ : Gh) : Prop where
  so : StOk Γ.M Γ.W Γ.sv
  mo : ∀ b, Γ.M b → Γ.O0 b
  ot : ∀ b, Γ.O0 b → Γ.H0 b ≠ none
  wm : ∀ H, Γ.W H → ∀ b, Γ.M b → H b ≠ none
  ws : ∀ H H', (∀ b, Γ.M b → H' b = H b) → Γ.W H → Γ.W H'
  wt : ∀ H H', Γ.W H → Γ.W H' → ∀ b, Γ.M b → ∀ xs, H b = some (.tup xs) → False
  wf : ∀ H b, Γ.W H → Γ.M b → ∀ o u, H b = some (.frz o u) → False
/-- all that was tracked is as it was, but for the drawing's own -/
def SameM (Γ : Gh) (H H' : Hp) : Prop := ∀ b u, H b = some u → ¬ Γ.M b → H' b = some u
/-- what an evaluation leaves -/
structure Later (Γ : Gh) (H H' : Hp) : Prop where
  same : SameM Γ H H'
  w : Γ.W H'
section
variable {K : KW} {Γ : Gh} {H H' H1 H2 : Hp} {O O' : Addr → Prop}
theorem Later.of_same (g : Γ.Ok) (w : Γ.W H) (s : Same H H') : Later Γ H H' := by
  refine ⟨fun b u h _ => s b u h, g.ws H H' (fun b hb => ?_) w⟩
  cases e : H b with
  | none => exact absurd e (g.wm H w b hb)
  | some u => exact s b u e
theorem Later.trans (a : Later Γ H H1) (b : Later Γ H1 H2) : Later Γ H H2 := ⟨fun c u h n => b.same c u (a.same c u h n) n, b.w⟩
theorem Later.ext (g : Γ.Ok) (w : Γ.W H) (hm : ∀ b, Γ.M b → O b) (l : Later Γ H H') : Ext H H' O O :=
  ⟨fun b u h n => l.same b u h fun z => n (hm b z), fun _ z => .inl z,
    fun b xs h => l.same b _ h fun z => g.wt H H' w l.w b z xs h, fun b o u h => l.same b _ h fun z => g.wf H b w z o u h⟩
end
/-- a thing that is only read: a list of a name's own, too -/
def RRep (K : KW) (Γ : Gh) (H : Hp) (O : Addr → Prop) (v : V) : D → Prop
  | .list ds => ∃ a xs, v = .ref a ∧ SqO K H Γ.M a xs ∧ Reps K H O xs ds
  | d => Rep K H O v d
def SRep (K : KW) (Γ : Gh) (H : Hp) (O : Addr → Prop) : Slot → V → Prop
  | .val d, v => Rep K H O v d
  | .own ds, v => ∃ a vs, v = .ref a ∧ H a = some (.lst vs) ∧ O a ∧ Γ.H0 a = none ∧ Reps K H O vs ds
  | .st, v => v = Γ.sv ∧ v ≠ .non
structure Fr (K : KW) (Γ : Gh) (δ : Dl) (σ : St) (H : Hp) (O : Addr → Prop) : Prop where
  gh : Γ.Ok
  len : δ.length = σ.length
  same : SameM Γ Γ.H0 H
  sub : ∀ b, Γ.O0 b → O b
  otr : ∀ b, O b → H b ≠ none
  w : Γ.W H
  slot : ∀ (i : Nat) s, δ[i]? = some (some s) → ∃ v, σ[i]? = some (some v) ∧ SRep K Γ H O s v
  dist : ∀ (i j : Nat) a ds es, δ[i]? = some (some (.own ds)) → δ[j]? = some (some (.own es)) → σ[i]? = some (some (.ref a)) → σ[j]? = some (some (.ref a)) → i = j
section
variable {K : KW} {Γ : Gh} {H H' H1 H2 : Hp} {O O' : Addr → Prop} {δ : Dl} {σ : St}
theorem Fr.m (f : Fr K Γ δ σ H O) : ∀ b, Γ.M b → O b := fun b z => f.sub b (f.gh.mo b z)
theorem Fr.noM (f : Fr K Γ δ σ H O) {a : Addr} (h : Γ.H0 a = none) : ¬ Γ.M a := fun z => f.gh.ot a (f.gh.mo a z) h
theorem Fr.ext (f : Fr K Γ δ σ H O) (l : Later Γ H H') : Ext H H' O O := l.ext f.gh f.w f.m
theorem SRep.later (f : Fr K Γ δ σ H O) (l : Later Γ H H') : ∀ {s : Slot} {v : V}, SRep K Γ H O s v → SRep K Γ H' O s v
  | .val d, v, h => Rep.ext (f.ext l) d v h
  | .own ds, v, ⟨a, vs, e, h1, h2, h3, h4⟩ => ⟨a, vs, e, l.same a _ h1 (f.noM h3), h2, h3, Reps.ext (f.ext l) ds vs h4⟩
  | .st, v, h => h
theorem Fr.later (f : Fr K Γ δ σ H O) (l : Later Γ H H') : Fr K Γ δ σ H' O where
  gh := f.gh
  len := f.len
  same := fun b u h n => l.same b u (f.same b u h n) n
  sub := f.sub
  otr := fun b h e => by
    cases q : H b with
    | none => exact f.otr b h q
    | some u =>
      by_cases m : Γ.M b
      · exact f.gh.wm H' l.w b m e
      · rw [l.same b u q m] at e; cases e
  w := l.w
  slot := fun i s h => by
    obtain ⟨v, e, r⟩ := f.slot i s h
    exact ⟨v, e, r.later f l⟩
  dist := f.dist
theorem Rep.r (f : ∀ b, Γ.M b → O b) : ∀ {d : D} {v : V}, Rep K H O v d → RRep K Γ H O v d
  | .list ds, v, h => by
    cases h with
    | lst h1 h2 =>
      refine ⟨_, _, rfl, ?_, h2⟩
      rcases h1 with ⟨h1, n⟩ | h1
      · exact .inl ⟨h1, fun z => n (f _ z)⟩
      · exact .inr h1
  | .none, _, h => h
  | .bool _, _, h => h
  | .int _, _, h => h
  | .str _, _, h => h
  | .tuple _, _, h => h
  | .dict _, _, h => h
theorem RRep.later (f : Fr K Γ δ σ H O) (l : Later Γ H H') : ∀ {d : D} {v : V}, RRep K Γ H O v d → RRep K Γ H' O v d
  | .list ds, v, h => by
    obtain ⟨a, xs, e, h1, h2⟩ := h
    exact ⟨a, xs, e, h1.ext (l.ext f.gh f.w fun _ z => z), Reps.ext (f.ext l) ds xs h2⟩
  | .none, _, h => Rep.ext (f.ext l) _ _ h
  | .bool _, _, h => Rep.ext (f.ext l) _ _ h
  | .int _, _, h => Rep.ext (f.ext l) _ _ h
  | .str _, _, h => Rep.ext (f.ext l) _ _ h
  | .tuple _, _, h => Rep.ext (f.ext l) _ _ h
  | .dict _, _, h => Rep.ext (f.ext l) _ _ h
mutual
theorem Rep.dp : ∀ (d : D) (v : V), d.hasDict = false → Rep K H O v d → Dp K H v d
  | .none, _, _, h => by cases h; exact .non
  | .bool b, _, _, h => by cases h; exact .bl b
  | .int i, _, _, h => by cases h; exact .int i
  | .str s, _, _, h => by cases h with | str _ hl => exact .str _
  | .list ds, _, n, h => by cases h with | lst h1 h2 => exact .lst h1.sq (Reps.dp ds _ (by simpa [PyData.hasDict] using n) h2)
  | .tuple ds, _, n, h => by cases h with | tup h1 h2 => exact .tup h1.sq (Reps.dp ds _ (by simpa [PyData.hasDict] using n) h2)
  | .dict ds, _, n, h => by simp [PyData.hasDict] at n
theorem Reps.dp : ∀ (ds : List D) (vs : List V), PyData.hasDictAll ds = false → Reps K H O vs ds → DpAll K H vs ds
  | [], _, _, h => by cases h; exact .nil
  | d :: ds, _, n, h => by
    cases h with | cons h1 h2 =>
      simp [PyData.hasDictAll] at n
      exact .cons (Rep.dp d _ n.1 h1) (Reps.dp ds _ n.2 h2)
end
theorem RRep.dp : ∀ {d : D} {v : V}, d.hasDict = false → RRep K Γ H O v d → Dp K H v d
  | .list ds, v, n, h => by
    obtain ⟨a, xs, rfl, h1, h2⟩ := h
    exact .lst h1.sq (Reps.dp ds xs (by simpa [PyData.hasDict] using n) h2)
  | .none, _, n, h => Rep.dp _ _ n h
  | .bool _, _, n, h => Rep.dp _ _ n h
  | .int _, _, n, h => Rep.dp _ _ n h
  | .str _, _, n, h => Rep.dp _ _ n h
  | .tuple _, _, n, h => Rep.dp _ _ n h
  | .dict _, _, n, h => Rep.dp _ _ n h
theorem shaped_dict {d : D} (h : SeqAt.shaped d = true) : d.hasDict = false := by
  unfold SeqAt.shaped at h
  rw [Bool.and_eq_true] at h
  exact PyData.hasDict_of_canLay d h.1
end
end Tk
/-! T1: tuples made anew, their object known. -/
namespace Tk
open PySem PySem.Spec PyProof.Rows L2
/-- what is wanted of a new tuple -/
def NewT (H : Hp) (vs : List V) (Q : VK) : Prop := ∀ (p : Addr) (o : Obj), H p = none → o.dict = none → Q (.ref p) (upd H p (.frz o (.tup vs)))
section
variable {X : Cx} {es : List Expr} {t : TA} {pos : Pos}
def tTupF (t : TA) : TE := fun σ H Q => t σ H fun xs H1 => xs.length ≤ sizeLine ∧ NewT H1 xs Q
theorem newT {pins : List (Addr × Obj)} {σ : L2.St} {H : Hp} {s : Shared} {Q : VK} {xs : List V} {us : List Value} (I : Inv X pins σ H s) (z : xs.length ≤ sizeLine) (r : Vals xs us) (q : NewT H xs Q) :
    EP X pins σ Q (.ref s.heap.objs.size) { s with heap := s.heap.push { cls := .type "tuple", data := .seq us.toArray } } := by
  refine ⟨.ref s.heap.objs.size, upd H s.heap.objs.size (.frz { cls := .type "tuple", data := .seq us.toArray } (.tup xs)), I.laid (t' := s.toks) (fun b u e => Heap.get?_push_of_some _ e) (Nat.le_refl _) ?_, rfl, q _ _ (I.hok.fresh (Nat.le_refl _)) rfl⟩
  exact ⟨Heap.get?_push_size _ rfl, z, us, r, ⟨_, Heap.get?_push_size _ rfl, rfl, _, rfl⟩⟩
theorem pe_tupF {x1} (h : PA X es t) : PE X (.Tuple es x1 pos) (tTupF t) := by
  refine ⟨fun pins s σ H Q I hq => ?_⟩
  refine wpAny_Tuple_spliced (thn (h.run pos pins s σ H _ I hq) fun us s1 ⟨xs, H1, I1, r, z, q⟩ => ⟨by rw [← r.length]; exact z, ?_⟩)
  exact newT I1 z r q
theorem call_tupF : CallR X (.type "tuple") (fun xs H Q => ∃ p ys, xs = [.ref p] ∧ ((SqL X.K H p ys ∧ NewT H ys Q) ∨ (SqT X.K H p ys ∧ Q (.ref p) H))) := by
  intro pins s σ H xs us Q I r h
  obtain ⟨p, ys, rfl, h⟩ := h
  obtain ⟨u, rfl, rx⟩ := vals1 r
  cases rx
  rcases h with ⟨hq, q⟩ | ⟨hq, q⟩
  · obtain ⟨its, r', pl, hz⟩ := I.list hq
    have hlen := r'.length
    refine call_tuple_list pl.isList (fun h' kp => ?_) (by simp only [List.size_toArray] <;> omega)
    exact newT (I.kept (t' := s.toks) kp) hz r' q
  · obtain ⟨its, r', pl, hz⟩ := I.tuple hq
    exact call_tuple_same pl ⟨.ref p, H, I, rfl, q⟩
def rCatF (K : PySem.W.Frag) : L2.R2 := fun x y H Q => ∃ a b xs ys, x = .ref a ∧ y = .ref b ∧ SqT K H a xs ∧ SqT K H b ys ∧ xs.length + ys.length ≤ sizeLine ∧
  (xs = [] → Q (.ref b) H) ∧ (xs ≠ [] → ys = [] → Q (.ref a) H) ∧ (xs ≠ [] → ys ≠ [] → NewT H (xs ++ ys) Q)
theorem op_catF : OpR X (binaryOp .Add) (rCatF X.K) := by
  intro pins s σ H x y v u Q I rx ry h
  obtain ⟨a, b, xs, ys, rfl, rfl, ha, hb, hz, q0, q1, q2⟩ := h
  cases rx
  cases ry
  obtain ⟨its, r1, p1, _⟩ := I.tuple ha
  obtain ⟨its2, r2, p2, _⟩ := I.tuple hb
  by_cases hx : xs = []
  · subst hx
    cases r1
    exact cat_tup0 p1 p2 ⟨.ref b, H, I, rfl, q0 rfl⟩
  · refine HT.cat_tup p1 p2 (fun z => hx (r1.nil_iff.mp z)) (fun z => ⟨.ref a, H, I, rfl, q1 hx (r2.nil_iff.mp z)⟩) (fun z => ?_) (by rw [← r1.length, ← r2.length]; exact hz)
    exact newT I (by rw [List.length_append]; exact hz) (r1.append r2) (q2 hx (fun w => z (r2.nil_iff.mpr w)))
def rSlF (K : PySem.W.Frag) : V → Option Int → Option Int → Hp → VK → Prop := fun x lo hi H Q => ∃ a xs, x = .ref a ∧ SqT K H a xs ∧
  (HT.sIx xs.length 0 lo = 0 ∧ HT.sIx xs.length xs.length hi = xs.length → Q (.ref a) H) ∧ (¬ (HT.sIx xs.length 0 lo = 0 ∧ HT.sIx xs.length xs.length hi = xs.length) → NewT H (cutV xs lo hi) Q)
theorem sl_tupF : SlR X (rSlF X.K) := by
  intro pins s σ H x v vl vu lo hi sl Q I rx hs pl pu h
  obtain ⟨a, xs, rfl, hx, q1, q2⟩ := h
  cases rx
  obtain ⟨its, r, ht, hz⟩ := I.tuple hx
  have hlen : its.toArray.size = xs.length := by rw [List.size_toArray]; exact r.length.symm
  refine ⟨"tuple", _, PyProof.Rows.slot_tuple_getitem.lookup, ht.typeIs, ?_⟩
  by_cases hw : HT.sIx xs.length 0 lo = 0 ∧ HT.sIx xs.length xs.length hi = xs.length
  · exact getItem_tuple_whole ht hs pl pu (by rw [hlen]; exact hw) ⟨.ref a, H, I, rfl, q1 hw⟩
  · refine HT.getItem_tuple_cut ht hs pl pu (by rw [hlen]; exact hw) ?_ (by rw [hlen]; exact hz)
    rw [hlen]
    exact newT I (Nat.le_trans (cutV_length xs lo hi) hz) ((r.drop (HT.sIx xs.length 0 lo)).take (HT.sIx xs.length xs.length hi - HT.sIx xs.length 0 lo)) (q2 hw)
def rRepF (K : PySem.W.Frag) : L2.R2 := fun x y H Q => ∃ l k xs, x = .ref l ∧ y = .int k ∧ SqT K H l xs ∧ xs ≠ [] ∧ 2 ≤ k ∧ k ≤ 1000 ∧ xs.length ≤ 1000 ∧ NewT H (List.replicate k.toNat xs).flatten Q
theorem op_repF : OpR X (binaryOp .Mult) (rRepF X.K) := by
  intro pins s σ H x y v u Q I rx ry h
  obtain ⟨l, k, xs, rfl, rfl, hT, hne, h1, h2, hz, q⟩ := h
  cases rx
  obtain ⟨t, rfl⟩ := ry
  obtain ⟨its, r, ⟨⟨cls, dd, data, sl⟩, ho, hc, n, hd⟩, hs⟩ := I.tuple hT
  simp only at hc hd
  subst hc hd
  have hle : its.length = xs.length := r.length.symm
  have hn : its ≠ [] := fun e => hne (by
    rw [e] at hle
    exact List.eq_nil_of_length_eq_zero hle.symm)
  have hi : its.toArray.isEmpty = false := by
    cases its with
    | nil => exact absurd rfl hn
    | cons a b => rfl
  have hsz0 : its.toArray.size = xs.length := by rw [List.size_toArray, hle]
  have hm : ((its.toArray.size : Nat) : Int) * k ≤ 1000000 := by
    rw [hsz0]
    have a1 : ((xs.length : Nat) : Int) * k ≤ 1000 * k := Int.mul_le_mul_of_nonneg_right (by omega) (by omega)
    omega
  have flen : (List.replicate k.toNat its).flatten.length ≤ sizeLine := by
    rw [PyProof.Rows.lm_len_rep_flat, hle, sizeLine_eq]
    have a1 : k.toNat * xs.length ≤ 1000 * 1000 := Nat.mul_le_mul (by omega) hz
    omega
  have c0 : (decide (k < -(2 ^ 63)) || decide (k ≥ 2 ^ 63)) = false := by
    rw [decide_eq_false (by omega), decide_eq_false (by omega)] <;> rfl
  have c1 : (its.toArray.isEmpty || k == 1) = false := by
    rw [hi, Bool.false_or]
    exact beq_eq_false_iff_ne.mpr (by omega)
  have c2 : (decide (k ≤ 0) || its.toArray.isEmpty) = false := by
    rw [hi, Bool.or_false]
    exact decide_eq_false (by omega)
  have c4 : Builtin.Tuple.tupleTooMany (((its.toArray.size : Nat) : Int) * k) = false := by
    unfold Builtin.Tuple.tupleTooMany
    rw [sizeLine_eq]
    exact decide_eq_false (by omega)
  refine wpAny_binaryOp_repeat_ref (T := "tuple") (U := "int") (by decide) ⟨_, ho, rfl⟩ (fun s' => typeIs_int s' k t) noFill_tuple_mul PySem.F.fills_int_mul PySem.F.slot_int_rmul repeat_tuple PySem.F.slot_int_index.lookup
    (call_meets PySem.F.slot_int_rmul (typeIs_int s k t) PySem.F.entry_int_rmul (PySem.F.args_int_rmul_2 _ _) (int_rmul_tuple k t l its.toArray n dd sl)
      ⟨ho, rfl, ⟨_, ho, rfl⟩, call_meets PySem.F.slot_tuple_mul ⟨_, ho, rfl⟩ PySem.F.entry_tuple_mul (PySem.F.args_tuple_mul_2 _ _) (tuple_mulW l its.toArray n dd sl k t c0 c1 c2 (by omega) c4 (by rw [size_rep, List.size_toArray]; exact flen)) ⟨ho, ?_⟩⟩)
  rw [size_rep]
  refine newT I ?_ (r.rep k.toNat) q
  rw [PyProof.Rows.lm_len_rep_flat, sizeLine_eq]
  have a1 : k.toNat * xs.length ≤ 1000 * 1000 := Nat.mul_le_mul (by omega) hz
  omega
end
end Tk
namespace Tk
open PySem PySem.Spec PyProof.Rows L2
abbrev OTr (O : Addr → Prop) (H : Hp) : Prop := ∀ b, O b → H b ≠ none
def R1 (K : KW) (o : Op1) : V → Hp → VK → Prop := fun v H Q => ∃ Γ O d r, OTr O H ∧ RRep K Γ H O v d ∧ sem1 o d = some r ∧ ∀ v' H', Same H H' → Rep K H' O v' r → Q v' H'
def R2 (K : KW) (o : Op2) : L2.R2 := fun v u H Q => ∃ Γ O d e r, OTr O H ∧ RRep K Γ H O v d ∧ RRep K Γ H O u e ∧ sem2 o d e = some r ∧ ∀ v' H', Same H H' → Rep K H' O v' r → Q v' H'
section
variable {K : KW} {Γ : Gh} {H H' : Hp} {O : Addr → Prop} {p : Addr} {vs : List V} {ds : List D}
theorem same_upd {o : HO} (h : H p = none) : Same H (upd H p o) := fun b u e => by rw [upd_ne (ne_of_none e h)]; exact e
theorem Reps.same (s : Same H H') (r : Reps K H O vs ds) : Reps K H' O vs ds := Reps.ext (Ext.same s) ds vs r
theorem mkL (ho : OTr O H) (hp : H p = none) (r : Reps K H O vs ds) : Rep K (upd H p (.lst vs)) O (.ref p) (.list ds) :=
  .lst (.inl ⟨.inl upd_same, fun z => ho p z hp⟩) (r.same (same_upd hp))
theorem mkT {o : Obj} (hp : H p = none) (hd : o.dict = none) (r : Reps K H O vs ds) : Rep K (upd H p (.frz o (.tup vs))) O (.ref p) (.tuple ds) :=
  .tup ⟨o, upd_same, hd⟩ (r.same (same_upd hp))
theorem Reps.bools : ∀ {ds : List D} {vs : List V} {bs : List Bool}, Reps K H O vs ds → boolsD ds = some bs → vs = bs.map V.bl
  | [], vs, bs, h, e => by cases h; simp [boolsD] at e; subst e; rfl
  | d :: ds, vs, bs, h, e => by
    cases h with | cons h1 h2 =>
      cases d with
      | bool b =>
        simp only [boolsD, Option.map_eq_some_iff] at e
        obtain ⟨cs, e1, rfl⟩ := e
        cases h1
        rw [Reps.bools h2 e1]; rfl
      | _ => simp [boolsD] at e
theorem Reps.ints : ∀ {ds : List D} {vs : List V} {bs : List Int}, Reps K H O vs ds → intsD ds = some bs → vs = bs.map V.int
  | [], vs, bs, h, e => by cases h; simp [intsD] at e; subst e; rfl
  | d :: ds, vs, bs, h, e => by
    cases h with | cons h1 h2 =>
      cases d with
      | int b =>
        simp only [intsD, Option.map_eq_some_iff] at e
        obtain ⟨cs, e1, rfl⟩ := e
        cases h1
        rw [Reps.ints h2 e1]; rfl
      | _ => simp [intsD] at e
theorem Reps.strs : ∀ {ds : List D} {vs : List V} {bs : List Str}, Reps K H O vs ds → strsD ds = some bs → vs = bs.map V.str
  | [], vs, bs, h, e => by cases h; simp [strsD] at e; subst e; rfl
  | d :: ds, vs, bs, h, e => by
    cases h with | cons h1 h2 =>
      cases d with
      | str b =>
        simp only [strsD, Option.map_eq_some_iff] at e
        obtain ⟨cs, e1, rfl⟩ := e
        cases h1
        rw [Reps.strs h2 e1]; rfl
      | _ => simp [strsD] at e
theorem Reps.ofStrs : ∀ {ys : List Str}, (∀ y ∈ ys, y.length ≤ sizeLine) → Reps K H O (ys.map V.str) (ys.map PyData.str)
  | [], _ => .nil
  | y :: ys, h => .cons (.str y (h y List.mem_cons_self)) (Reps.ofStrs fun z hz => h z (List.mem_cons_of_mem _ hz))
end
section
variable {X : Cx} {Γ : Gh} {e : Expr} {te : TE}
def l1 (r : V → Hp → VK → Prop) : List V → Hp → VK → Prop
  | [v], H, Q => r v H Q
  | _, _, _ => False
def l2 (r : L2.R2) : List V → Hp → VK → Prop
  | [v, u], H, Q => r v u H Q
  | _, _, _ => False
theorem CallR.l1_of {f : Value} {r : V → Hp → VK → Prop} (h : ∀ (pins : List (Addr × Obj)) (s : Shared) (σ : L2.St) (H : Hp) (x : V) (u : Value) (Q : VK), Inv X pins σ H s → RelV x u → r x H Q → wpAny (model X.prog X.w) X.A (call f [u]) (EP X pins σ Q) X.xe s) : CallR X f (l1 r) := by
  intro pins s σ H xs us Q I rv hq
  match xs, rv, hq with
  | [x], rv, hq =>
    obtain ⟨u, rfl, rx⟩ := vals1 rv
    exact h pins s σ H x u Q I rx hq
/-- from a rule over lists of arguments -/
theorem CallR.to1 {f : Value} {r : List V → Hp → VK → Prop} {r1 : V → Hp → VK → Prop} (h : CallR X f r) (hi : ∀ v H Q, r1 v H Q → r [v] H Q) : CallR X f (l1 r1) :=
  CallR.l1_of fun pins s σ H x u Q I rx hq => h pins s σ H [x] [u] Q I (.cons rx .nil) (hi _ _ _ hq)
theorem c_len : CallR X (.builtin "len") (l1 (R1 (kwOf X) .len)) := by
  refine CallR.to1 call_len fun v H Q h => ?_
  obtain ⟨Γ, O, d, r, ho, hr, hs, q⟩ := h
  cases d with
  | str x =>
    cases hr with
    | str _ hl =>
      simp [sem1, lenD] at hs; subst hs
      exact ⟨_, x.length, rfl, ⟨hl, rfl⟩, q _ _ (Same.refl _) (.int _)⟩
  | list ds =>
    obtain ⟨a, xs, rfl, h1, h2⟩ := hr
    simp [sem1, lenD] at hs; subst hs
    refine ⟨_, xs.length, rfl, .inl ⟨xs, h1.sq, rfl⟩, ?_⟩
    rw [h2.length]
    exact q _ _ (Same.refl _) (.int _)
  | tuple ds =>
    cases hr with
    | tup h1 h2 =>
      simp [sem1, lenD] at hs; subst hs
      refine ⟨_, _, rfl, .inr ⟨_, h1.sq, rfl⟩, ?_⟩
      rw [h2.length]
      exact q _ _ (Same.refl _) (.int _)
  | _ => simp [sem1, lenD] at hs
theorem c_all (hc : X.calm = true) : CallR X (.builtin "all") (l1 (R1 (kwOf X) .all)) := by
  refine CallR.to1 (cr_all hc) fun v H Q h => ?_
  obtain ⟨Γ, O, d, r, ho, hr, hs, q⟩ := h
  cases d with
  | list ds =>
    obtain ⟨a, xs, rfl, h1, h2⟩ := hr
    simp only [sem1, Option.map_eq_some_iff] at hs
    obtain ⟨bs, e, rfl⟩ := hs
    have e2 := h2.bools e
    subst e2
    exact ⟨a, bs, rfl, h1.sq, q _ _ (Same.refl _) (.bl _)⟩
  | _ => simp [sem1] at hs
theorem c_any (hc : X.calm = true) : CallR X (.builtin "any") (l1 (R1 (kwOf X) .any)) := by
  refine CallR.to1 (cr_any hc) fun v H Q h => ?_
  obtain ⟨Γ, O, d, r, ho, hr, hs, q⟩ := h
  cases d with
  | list ds =>
    obtain ⟨a, xs, rfl, h1, h2⟩ := hr
    simp only [sem1, Option.map_eq_some_iff] at hs
    obtain ⟨bs, e, rfl⟩ := hs
    have e2 := h2.bools e
    subst e2
    exact ⟨a, bs, rfl, h1.sq, q _ _ (Same.refl _) (.bl _)⟩
  | _ => simp [sem1] at hs
theorem c_sum (hc : X.calm = true) : CallR X (.builtin "sum") (l1 (R1 (kwOf X) .sum)) := by
  refine CallR.to1 (cr_sum hc) fun v H Q h => ?_
  obtain ⟨Γ, O, d, r, ho, hr, hs, q⟩ := h
  cases d with
  | list ds =>
    obtain ⟨a, xs, rfl, h1, h2⟩ := hr
    simp only [sem1, Option.map_eq_some_iff] at hs
    obtain ⟨bs, e, rfl⟩ := hs
    have e2 := h2.ints e
    subst e2
    exact ⟨a, bs, rfl, h1.sq, q _ _ (Same.refl _) (.int _)⟩
  | _ => simp [sem1] at hs
theorem c_tuple : CallR X (.type "tuple") (l1 (R1 (kwOf X) .tuple)) := by
  refine CallR.to1 call_tupF fun v H Q h => ?_
  obtain ⟨Γ, O, d, r, ho, hr, hs, q⟩ := h
  cases d with
  | list ds =>
    obtain ⟨a, xs, rfl, h1, h2⟩ := hr
    simp [sem1] at hs; subst hs
    exact ⟨a, xs, rfl, .inl ⟨h1.sq, fun l o hl hd => q _ _ (same_upd hl) (mkT hl hd h2)⟩⟩
  | tuple ds =>
    cases hr with
    | tup h1 h2 =>
      simp [sem1] at hs; subst hs
      exact ⟨_, _, rfl, .inr ⟨h1.sq, q _ _ (Same.refl _) (.tup h1 h2)⟩⟩
  | _ => simp [sem1] at hs
theorem c_list : CallR X (.type "list") (l1 (R1 (kwOf X) .list)) := by
  refine CallR.to1 call_list_of fun v H Q h => ?_
  obtain ⟨Γ, O, d, r, ho, hr, hs, q⟩ := h
  cases d with
  | list ds =>
    obtain ⟨a, xs, rfl, h1, h2⟩ := hr
    simp [sem1] at hs; subst hs
    exact ⟨a, xs, rfl, .inl h1.sq, fun l hl => q _ _ (same_upd hl) (mkL ho hl h2)⟩
  | tuple ds =>
    cases hr with
    | tup h1 h2 =>
      simp [sem1] at hs; subst hs
      exact ⟨_, _, rfl, .inr (h1.sq), fun l hl => q _ _ (same_upd hl) (mkL ho hl h2)⟩
  | _ => simp [sem1] at hs
theorem RRep.isN : ∀ {d : D} {v : V} {H : Hp} {O : Addr → Prop}, RRep (kwOf X) Γ H O v d → decide (v = V.non) = isNoneD d
  | .none, _, _, _, h => by cases h; rfl
  | .bool _, _, _, _, h => by cases h; rfl
  | .int _, _, _, _, h => by cases h; rfl
  | .str _, _, _, _, h => by cases h; rfl
  | .tuple _, _, _, _, h => by cases h; rfl
  | .dict _, _, _, _, h => by cases h <;> rfl
  | .list _, _, _, _, h => by obtain ⟨a, xs, rfl, _⟩ := h; rfl
end
section
variable {X : Cx} {Γ : Gh}
theorem o_add : OpR X (binaryOp .Add) (R2 (kwOf X) .add) := by
  intro pins s σ H x y v u Q I rx ry h
  obtain ⟨Γ, O, d, e, r, ho, h1, h2, hs, q⟩ := h
  cases d with
  | int i =>
    cases e with
    | int j =>
      cases h1; cases h2
      simp [sem2] at hs; subst hs
      exact op_add pins s σ H _ _ v u Q I rx ry ⟨i, j, rfl, rfl, q _ _ (Same.refl _) (.int _)⟩
    | _ => simp [sem2] at hs
  | str a =>
    cases e with
    | str b =>
      cases h1; cases h2
      simp only [sem2] at hs
      split at hs
      · rename_i hl
        cases hs
        exact op_add_str pins s σ H _ _ v u Q I rx ry ⟨a, b, rfl, rfl, hl, q _ _ (Same.refl _) (.str _ (by rw [TL.len_tl, TL.tl_append, List.length_append, ← TL.len_tl, ← TL.len_tl]; exact hl))⟩
      · cases hs
    | _ => simp [sem2] at hs
  | tuple a =>
    cases e with
    | tuple b =>
      cases h1 with
      | tup t1 r1 =>
        cases h2 with
        | tup t2 r2 =>
          simp only [sem2] at hs
          split at hs
          · rename_i hl
            cases hs
            refine op_catF pins s σ H _ _ v u Q I rx ry ⟨_, _, _, _, rfl, rfl, t1.sq, t2.sq, by rw [r1.length, r2.length]; exact hl, fun e0 => ?_, fun _ e1 => ?_, fun _ _ p o hp hd => ?_⟩
            · subst e0
              have : a = [] := by cases a with | nil => rfl | cons _ _ => cases r1
              subst this
              exact q _ _ (Same.refl _) (.tup t2 r2)
            · subst e1
              have : b = [] := by cases b with | nil => rfl | cons _ _ => cases r2
              subst this
              rw [List.append_nil] at q
              exact q _ _ (Same.refl _) (.tup t1 r1)
            · exact q _ _ (same_upd hp) (mkT hp hd (r1.append r2))
          · cases hs
    | _ => simp [sem2] at hs
  | list a =>
    cases e with
    | list b =>
      obtain ⟨p1, xs, rfl, t1, r1⟩ := h1
      obtain ⟨p2, ys, rfl, t2, r2⟩ := h2
      simp only [sem2] at hs
      split at hs
      · rename_i hl
        cases hs
        cases rx; cases ry
        obtain ⟨its1, v1, l1, z1⟩ := I.list t1.sq
        obtain ⟨its2, v2, l2, z2⟩ := I.list t2.sq
        obtain ⟨⟨cls, dd, data, sl⟩, n, ho1, hc, hd', hd⟩ := l1
        obtain ⟨⟨cls2, dd2, data2, sl2⟩, n2, ho2, hc2, hd2', hd2⟩ := l2
        simp only at hc hd hc2 hd2
        subst hc hd hc2 hd2
        have hl' : xs.length + ys.length ≤ sizeLine := by rw [r1.length, r2.length]; exact hl
        have ea : its1.toArray ++ its2.toArray = (its1 ++ its2).toArray := by simp
        refine concat_meets ⟨_, ho1, rfl⟩ ⟨_, ho2, rfl⟩ noFill_list_add seq_list_add PySem.F.slot_list_add PySem.F.entry_list_add (PySem.F.args_list_add_2 _ _) (list_addW p1 p2 its1.toArray its2.toArray n n2 dd dd2 sl sl2 (by simpa [← v1.length, ← v2.length] using hl')) ⟨ho1, ho2, ?_⟩
        rw [ea]
        exact ⟨.ref _, _, I.lnew (t' := s.toks) (v1.append v2) (by rw [List.length_append]; exact hl'), rfl, q _ _ (same_upd I.fresh) (mkL ho I.fresh (r1.append r2))⟩
      · cases hs
    | _ => simp [sem2] at hs
  | _ => cases e <;> simp [sem2] at hs
theorem o_sub : OpR X (binaryOp .Sub) (R2 (kwOf X) .sub) := by
  intro pins s σ H x y v u Q I rx ry h
  obtain ⟨Γ, O, d, e, r, ho, h1, h2, hs, q⟩ := h
  cases d with
  | int i =>
    cases e with
    | int j =>
      cases h1; cases h2
      simp [sem2] at hs; subst hs
      exact op_sub pins s σ H _ _ v u Q I rx ry ⟨i, j, rfl, rfl, q _ _ (Same.refl _) (.int _)⟩
    | _ => simp [sem2] at hs
  | _ => cases e <;> simp [sem2] at hs
theorem Reps.rep {K : KW} {H : Hp} {O : Addr → Prop} {vs : List V} {ds : List D} (r : Reps K H O vs ds) : ∀ n : Nat, Reps K H O (List.replicate n vs).flatten (List.replicate n ds).flatten
  | 0 => .nil
  | n + 1 => by
    rw [List.replicate_succ, List.replicate_succ, List.flatten_cons, List.flatten_cons]
    exact r.append (Reps.rep r n)
theorem tuple_mul1 (l : Addr) (items : Array Value) (n : Nat) (dd : Option Addr) (sl : Array (Option Value)) (u : Tok) : Meets (Builtin.«tuple.__mul__» ⟨[.ref l, .int 1 u], []⟩) (fun _ R s => s.heap.get? l = some { cls := .type "tuple", dict := dd, data := .seq items n, slots := sl } ∧ R (.ok (.ret (Value.ref l))) s) :=
  .of_wp fun prog w A R s h => by
    obtain ⟨hp, g, d, tk, os⟩ := s
    obtain ⟨hl, h⟩ := h
    have f1 := AutoSeq1.idx_int
    wp_walk using wpAny_loadPart' hl
    exact ⟨_, rfl, h⟩
def rOne (K : KW) : L2.R2 := fun x y H Q => ∃ l xs, x = .ref l ∧ y = .int 1 ∧ SqT K H l xs ∧ xs ≠ [] ∧ Q (.ref l) H
theorem op_one : OpR X (binaryOp .Mult) (rOne (kwOf X)) := by
  intro pins s σ H x y v u Q I rx ry h
  obtain ⟨l, xs, rfl, rfl, hT, hne, q⟩ := h
  cases rx
  obtain ⟨t, rfl⟩ := ry
  obtain ⟨its, r, ⟨⟨cls, dd, data, sl⟩, ho, hc, n, hd⟩, hs⟩ := I.tuple hT
  simp only at hc hd
  subst hc hd
  exact wpAny_binaryOp_repeat_ref (T := "tuple") (U := "int") (by decide) ⟨_, ho, rfl⟩ (fun s' => typeIs_int s' 1 t) noFill_tuple_mul PySem.F.fills_int_mul PySem.F.slot_int_rmul repeat_tuple PySem.F.slot_int_index.lookup
    (call_meets PySem.F.slot_int_rmul (typeIs_int s 1 t) PySem.F.entry_int_rmul (PySem.F.args_int_rmul_2 _ _) (int_rmul_tuple 1 t l its.toArray n dd sl)
      ⟨ho, rfl, ⟨_, ho, rfl⟩, call_meets PySem.F.slot_tuple_mul ⟨_, ho, rfl⟩ PySem.F.entry_tuple_mul (PySem.F.args_tuple_mul_2 _ _) (tuple_mul1 l its.toArray n dd sl t) ⟨ho, .ref l, H, I, rfl, q⟩⟩)
theorem o_mul : OpR X (binaryOp .Mult) (R2 (kwOf X) .mul) := by
  intro pins s σ H x y v u Q I rx ry h
  obtain ⟨Γ, O, d, e, r, ho, h1, h2, hs, q⟩ := h
  cases d with
  | int i =>
    cases e with
    | int j =>
      cases h1; cases h2
      simp only [sem2] at hs
      split at hs
      · rename_i hc
        cases hs
        rcases hc with hc | hc
        · exact op_mul pins s σ H _ _ v u Q I rx ry ⟨i, j, rfl, rfl, hc, q _ _ (Same.refl _) (.int _)⟩
        · exact op_mulW pins s σ H _ _ v u Q I rx ry ⟨i, j, rfl, rfl, hc, q _ _ (Same.refl _) (.int _)⟩
      · cases hs
    | _ => simp [sem2] at hs
  | tuple xs =>
    cases e with
    | int j =>
      cases h1 with
      | @tup a vs _ t1 r1 =>
      cases h2
      simp only [sem2] at hs
      split at hs
      · rename_i hc
        obtain ⟨c1, c2, c3, c4⟩ := hc
        cases hs
        have hne : vs ≠ [] := fun z => by subst z; cases r1; simp at c3
        by_cases hj : j = 1
        · subst hj
          have e1 : (List.replicate (1 : Int).toNat xs).flatten = xs := by simp
          rw [e1] at q
          exact op_one pins s σ H _ _ v u Q I rx ry ⟨a, vs, rfl, rfl, t1.sq, hne, q _ _ (Same.refl _) (.tup t1 r1)⟩
        · exact op_repF pins s σ H _ _ v u Q I rx ry ⟨a, j, vs, rfl, rfl, t1.sq, hne, by omega, c2, by rw [r1.length]; exact c4, fun p o hp hd => q _ _ (same_upd hp) (mkT hp hd (r1.rep j.toNat))⟩
      · cases hs
    | _ => simp [sem2] at hs
  | _ => cases e <;> simp [sem2] at hs
theorem o_fdiv : OpR X (binaryOp .FloorDiv) (R2 (kwOf X) .fdiv) := by
  intro pins s σ H x y v u Q I rx ry h
  obtain ⟨Γ, O, d, e, r, ho, h1, h2, hs, q⟩ := h
  cases d with
  | int i =>
    cases e with
    | int j =>
      cases h1; cases h2
      simp only [sem2] at hs
      split at hs
      · rename_i hc
        cases hs
        exact op_fdivN pins s σ H _ _ v u Q I rx ry ⟨i, j, rfl, rfl, hc, q _ _ (Same.refl _) (.int _)⟩
      · cases hs
    | _ => simp [sem2] at hs
  | _ => cases e <;> simp [sem2] at hs
theorem o_mod : OpR X (binaryOp .Mod) (R2 (kwOf X) .mod) := by
  intro pins s σ H x y v u Q I rx ry h
  obtain ⟨Γ, O, d, e, r, ho, h1, h2, hs, q⟩ := h
  cases d with
  | int i =>
    cases e with
    | int j =>
      cases h1; cases h2
      simp only [sem2] at hs
      split at hs
      · rename_i hc
        cases hs
        exact op_modN pins s σ H _ _ v u Q I rx ry ⟨i, j, rfl, rfl, hc, q _ _ (Same.refl _) (.int _)⟩
      · cases hs
    | _ => simp [sem2] at hs
  | _ => cases e <;> simp [sem2] at hs
def CPowB (i j : Int) : Prop := 0 ≤ j ∧ j ≤ 1000 ∧ i.natAbs < 2 ^ 1000
theorem op_powB : OpR X (binaryOp .Pow) (rI CPowB fun i j => .int (i ^ j.toNat)) := opI fun _ _ _ _ _ _ _ hc q => PyProof.Rows.pow_int hc.1 (by
  rename_i i j _ _ _ _ _
  have h1 : Builtin.Int.intBits i ≤ 1001 := by
    unfold Builtin.Int.intBits
    split
    · omega
    · rename_i hz
      have : i.natAbs.log2 < 1000 := (Nat.log2_lt (by simpa using hz)).mpr hc.2.2
      omega
  have h2 : (Builtin.Int.intBits i : Int) ≤ 1001 := by exact_mod_cast h1
  have h3 : (Builtin.Int.intBits i : Int) * j ≤ 1001 * 1000 := Int.mul_le_mul h2 hc.2.1 hc.1 (by decide)
  omega) q
theorem o_pow : OpR X (binaryOp .Pow) (R2 (kwOf X) .pow) := by
  intro pins s σ H x y v u Q I rx ry h
  obtain ⟨Γ, O, d, e, r, ho, h1, h2, hs, q⟩ := h
  cases d with
  | int i =>
    cases e with
    | int j =>
      cases h1; cases h2
      simp only [sem2] at hs
      split at hs
      · rename_i hc
        cases hs
        rcases hc with hc | hc
        · exact op_pow pins s σ H _ _ v u Q I rx ry ⟨i, j, rfl, rfl, hc, q _ _ (Same.refl _) (.int _)⟩
        · exact op_powB pins s σ H _ _ v u Q I rx ry ⟨i, j, rfl, rfl, hc, q _ _ (Same.refl _) (.int _)⟩
      · cases hs
    | _ => simp [sem2] at hs
  | _ => cases e <;> simp [sem2] at hs
theorem dec_str' {a b : Str} : decide (V.str a = V.str b) = PyData.eqv (.str a) (.str b) := by
  simp only [PyData.eqv, V.str.injEq]
  rw [Bool.eq_iff_iff]; simp
theorem o_eq (hu : X.A.units + 64 < cLine) : OpR X (compareOp .Eq) (R2 (kwOf X) .eq) := by
  intro pins s σ H x y v u Q I rx ry h
  obtain ⟨Γ, O, d, e, r, ho, h1, h2, hs, q⟩ := h
  simp only [sem2] at hs
  split at hs
  · rename_i hc
    cases hs
    rcases hc with hc | hc
    · cases d <;> cases e <;> simp [bothS] at hc
      cases h1; cases h2
      refine op_eq pins s σ H _ _ v u Q I rx ry ⟨rfl, ?_⟩
      rw [dec_str']
      exact q _ _ (Same.refl _) (.bl _)
    · exact op_eqD hu pins s σ H _ _ v u Q I rx ry ⟨d, e, h1.dp (shaped_dict hc.1), h2.dp (shaped_dict hc.2), hc.1, hc.2, q _ _ (Same.refl _) (.bl _)⟩
  · cases hs
theorem o_ne (hu : X.A.units + 64 < cLine) : OpR X (compareOp .NotEq) (R2 (kwOf X) .ne) := by
  intro pins s σ H x y v u Q I rx ry h
  obtain ⟨Γ, O, d, e, r, ho, h1, h2, hs, q⟩ := h
  simp only [sem2] at hs
  split at hs
  · rename_i hc
    cases hs
    rcases hc with hc | hc
    · cases d <;> cases e <;> simp [bothS] at hc
      cases h1; cases h2
      refine op_ne pins s σ H _ _ v u Q I rx ry ⟨rfl, ?_⟩
      rw [dec_str']
      exact q _ _ (Same.refl _) (.bl _)
    · exact op_neD hu pins s σ H _ _ v u Q I rx ry ⟨d, e, h1.dp (shaped_dict hc.1), h2.dp (shaped_dict hc.2), hc.1, hc.2, q _ _ (Same.refl _) (.bl _)⟩
  · cases hs
theorem depth_of_shaped {d : D} (h : SeqAt.shaped d = true) : d.depth ≤ 64 := by
  unfold SeqAt.shaped at h
  simp only [Bool.and_eq_true, decide_eq_true_eq] at h
  exact h.2
theorem o_lt (hu : X.A.units + 64 < cLine) : OpR X (compareOp .Lt) (R2 (kwOf X) .lt) := by
  intro pins s σ H x y v u Q I rx ry h
  obtain ⟨Γ, O, d, e, r, ho, h1, h2, hs, q⟩ := h
  cases d with
  | int i =>
    cases e with
    | int j =>
      cases h1; cases h2
      simp [sem2] at hs; subst hs
      exact op_lt pins s σ H _ _ v u Q I rx ry ⟨i, j, rfl, rfl, q _ _ (Same.refl _) (.bl _)⟩
    | _ => simp [sem2] at hs
  | str i =>
    cases e with
    | str j =>
      cases h1; cases h2
      simp [sem2] at hs; subst hs
      exact op_lt_str pins s σ H _ _ v u Q I rx ry ⟨i, j, rfl, rfl, q _ _ (Same.refl _) (.bl _)⟩
    | _ => simp [sem2] at hs
  | tuple xs =>
    cases e with
    | tuple ys =>
      simp only [sem2] at hs
      split at hs
      · rename_i hc
        cases hs
        obtain ⟨as, r1⟩ := Dp.reads I _ x v (h1.dp (shaped_dict hc.2.1)) rx
        obtain ⟨bs, r2⟩ := Dp.reads I _ y u (h2.dp (shaped_dict hc.2.2)) ry
        have hd := depth_of_shaped hc.2.1
        exact PySem.W.lt_data r1 r2 hc.1 (by simp) (by omega) ⟨.bl _, H, I, rfl, q _ _ (Same.refl _) (.bl _)⟩
      · cases hs
    | _ => simp [sem2] at hs
  | _ => cases e <;> simp [sem2] at hs
theorem o_le : OpR X (compareOp .LtE) (R2 (kwOf X) .le) := by
  intro pins s σ H x y v u Q I rx ry h
  obtain ⟨Γ, O, d, e, r, ho, h1, h2, hs, q⟩ := h
  cases d with
  | int i =>
    cases e with
    | int j =>
      cases h1; cases h2
      simp [sem2] at hs; subst hs
      exact op_le pins s σ H _ _ v u Q I rx ry ⟨i, j, rfl, rfl, q _ _ (Same.refl _) (.bl _)⟩
    | _ => simp [sem2] at hs
  | _ => cases e <;> simp [sem2] at hs
theorem o_gt : OpR X (compareOp .Gt) (R2 (kwOf X) .gt) := by
  intro pins s σ H x y v u Q I rx ry h
  obtain ⟨Γ, O, d, e, r, ho, h1, h2, hs, q⟩ := h
  cases d with
  | int i =>
    cases e with
    | int j =>
      cases h1; cases h2
      simp [sem2] at hs; subst hs
      exact op_gt pins s σ H _ _ v u Q I rx ry ⟨i, j, rfl, rfl, q _ _ (Same.refl _) (.bl _)⟩
    | _ => simp [sem2] at hs
  | _ => cases e <;> simp [sem2] at hs
theorem o_ge : OpR X (compareOp .GtE) (R2 (kwOf X) .ge) := by
  intro pins s σ H x y v u Q I rx ry h
  obtain ⟨Γ, O, d, e, r, ho, h1, h2, hs, q⟩ := h
  cases d with
  | int i =>
    cases e with
    | int j =>
      cases h1; cases h2
      simp [sem2] at hs; subst hs
      exact op_ge pins s σ H _ _ v u Q I rx ry ⟨i, j, rfl, rfl, q _ _ (Same.refl _) (.bl _)⟩
    | _ => simp [sem2] at hs
  | _ => cases e <;> simp [sem2] at hs
theorem canLayAll_of : ∀ {xs : List D}, allShaped xs = true → PyData.canLayAll0 xs = true
  | [], _ => rfl
  | x :: xs, h => by
    simp only [allShaped, List.all_cons, Bool.and_eq_true] at h
    simp only [PyData.canLayAll0, Bool.and_eq_true]
    exact ⟨SeqAt.canLay_of_shaped h.1, canLayAll_of h.2⟩
theorem hasDictAll_of {xs : List D} (h : allShaped xs = true) : PyData.hasDictAll xs = false := PyData.hasDictAll_of_canLayAll xs (canLayAll_of h)
theorem sign1 {c : Str} {n : Nat} (e : c.cps.toList = [n]) : c = ⟨#[n]⟩ := TL.ext_tl e
/-! dicts -/
theorem keyOf_kD (k : Key) : keyOf (kD k) = some k := by cases k <;> rfl
theorem keysOf_map : ∀ k : List Key, keysOf (k.map kD) = some k
  | [] => rfl
  | a :: k => by simp [keysOf, keyOf_kD, keysOf_map k]
theorem tupKey_tD (k : List Key) : tupKey (tD k) = some k := keysOf_map k
section
variable {K : KW} {H : Hp} {O : Addr → Prop} {Γ : Gh}
theorem keyOf_rep {d : D} {v : V} {k : Key} (r : RRep K Γ H O v d) (e : keyOf d = some k) : v = kV k := by
  cases d with
  | int i => cases r; cases e; rfl
  | str x => cases r; cases e; rfl
  | _ => cases e
theorem keyOf_rep' {d : D} {v : V} {k : Key} (r : Rep K H O v d) (e : keyOf d = some k) : v = kV k := by
  cases d with
  | int i => cases r; cases e; rfl
  | str x => cases r; cases e; rfl
  | _ => cases e
theorem keysOf_reps : ∀ {ds : List D} {vs : List V} {k : List Key}, Reps K H O vs ds → keysOf ds = some k → vs = k.map kV
  | [], _, k, r, e => by cases r; cases e; rfl
  | d :: ds, _, k, r, e => by
    cases r with
    | cons r1 r2 =>
      simp only [keysOf, Option.bind_eq_some_iff, Option.map_eq_some_iff] at e
      obtain ⟨a, e1, ks, e2, rfl⟩ := e
      rw [keyOf_rep' r1 e1, keysOf_reps r2 e2]; rfl
theorem look_rep : ∀ {es : List (D × D)} {kvs : List (Key × V)}, RepsK K H O kvs es → ∀ k : Key, (lookD es k).isSome = (valV kvs k).isSome ∧ ∀ d, lookD es k = some d → ∃ v, valV kvs k = some v ∧ Rep K H O v d
  | [], _, r, k => by cases r; exact ⟨rfl, fun d e => by cases e⟩
  | (kd, d) :: es, _, r, k => by
    cases r with
    | @cons a v vs _ _ r1 r2 =>
      have ih := look_rep r2 k
      by_cases hk : a = k
      · subst hk
        have e1 : lookD ((kD a, d) :: es) a = some d := by simp [lookD, keyOf_kD]
        have e2 : valV ((a, v) :: vs) a = some v := valV_pos rfl
        rw [e1, e2]
        exact ⟨rfl, fun d' e => by cases e; exact ⟨v, rfl, r1⟩⟩
      · have e1 : lookD ((kD a, d) :: es) k = lookD es k := by
          have hk' : decide (keyOf (kD a) = some k) = false := by rw [keyOf_kD]; simp [hk]
          simp only [lookD, List.find?_cons, hk']
        have e2 : valV ((a, v) :: vs) k = valV vs k := valV_neg hk
        rw [e1, e2]
        exact ih
theorem rep_dict {v : V} {es : List (D × D)} (h : Rep K H O v (.dict es)) : (∃ a kvs, v = .ref a ∧ H a = some (.dK kvs) ∧ RepsK K H O kvs es ∧ dsetOf (.dict es) = none) ∨ ∃ a xs, v = .ref a ∧ H a = some (DsO K a xs) ∧ (∀ q ∈ xs, TupP H q.2.1 (q.1.map kV) ∧ ∀ x, Sum.inr x ∈ q.1 → x.length ≤ sizeLine) ∧ es = [(.none, .list ((xs.map (·.1)).map tD))] := by
  generalize hd : PyData.dict es = d at h
  cases h with
  | @dct a kvs ds h1 h2 h3 =>
    cases hd
    refine .inl ⟨a, kvs, rfl, h1, h3, ?_⟩
    unfold dsetOf
    split
    · rename_i ks e
      cases e
      generalize hn : (PyData.none, PyData.list ks) = p at h3
      cases h3 with
      | @cons k v vs d ds r1 r2 =>
        cases k <;> cases hn
    · rfl
  | @dst a kvs h1 h2 h3 =>
    cases hd
    exact .inr ⟨a, kvs, rfl, h1, h3, rfl⟩
  | _ => cases hd
theorem ds_any : ∀ (xs : List (List Key × Addr × Value)) (k : List Key), (((xs.map (·.1)).map tD).any fun y => decide (tupKey y = some k)) = (atKey xs k).isSome := by
  intro xs k
  rw [List.any_map, List.any_map]
  unfold atKey
  rw [Option.isSome_map, List.isSome_find?]
  congr 1
  funext p
  simp only [Function.comp, tupKey_tD, Option.some.injEq]
theorem in_dict {x v : V} {d : D} {es : List (D × D)} {r : D} {f : Bool → Bool} (hx : RRep K Γ H O x d) (hv : Rep K H O v (.dict es)) (hs : (match dsetOf (.dict es) with
    | some ks => (tupKey d).map fun k => PyData.bool (f (ks.any fun y => decide (tupKey y = some k)))
    | none => if entsOk es = true then (keyOf d).map fun k => PyData.bool (f (lookD es k).isSome) else none) = some r) : (∃ a o, v = .ref a ∧ DGet H a x o ∧ r = .bool (f o.isSome)) ∨
      ∃ a xs k b, v = .ref a ∧ H a = some (DsO K a xs) ∧ (∀ q ∈ xs, TupP H q.2.1 (q.1.map kV) ∧ ∀ x, Sum.inr x ∈ q.1 → x.length ≤ sizeLine) ∧ x = .ref b ∧ TupP H b (k.map kV) ∧ r = .bool (f (atKey xs k).isSome) := by
  rcases rep_dict hv with ⟨a, kvs, rfl, h1, h2, h3⟩ | ⟨a, xs, rfl, h1, h2, rfl⟩
  · rw [h3] at hs
    simp only at hs
    split at hs
    · rw [Option.map_eq_some_iff] at hs
      obtain ⟨k, e1, rfl⟩ := hs
      obtain rfl := keyOf_rep hx e1
      exact .inl ⟨a, _, rfl, DGet.k h1, by rw [(look_rep h2 k).1]⟩
    · cases hs
  · simp only [dsetOf, Option.map_eq_some_iff] at hs
    obtain ⟨k, e1, rfl⟩ := hs
    rw [ds_any]
    cases d with
    | tuple ds =>
      cases hx with
      | @tup b ys _ t1 r1 =>
        obtain rfl := keysOf_reps r1 e1
        exact .inr ⟨a, xs, k, b, rfl, h1, h2, rfl, t1, rfl⟩
    | _ => cases e1
end
section
variable {X : Cx} {pins : List (Addr × Obj)} {σ : L2.St} {H : Hp} {s : Shared}
theorem key_ofP {b : Addr} {k : List Key} (I : Inv X pins σ H s) (h : TupP H b (k.map kV)) : (tupleKind (mixKind X.prog X.w)).is s.heap k b := by
  obtain ⟨o, e, _⟩ := h
  obtain ⟨_, _, its, r, o', h1, h2, n, h3⟩ := (show ObjOk X.prog X.w H s.heap b (.frz o (.tup (k.map kV))) from I.hok b _ e)
  exact ⟨o', its.toArray, n, h1, h2, h3, by simpa using items_are r⟩
theorem ds_of {a : Addr} {xs : List (List Key × Addr × Value)} (I : Inv X pins σ H s) (hD : H a = some (DsO (kwOf X) a xs)) (hk : ∀ q ∈ xs, TupP H q.2.1 (q.1.map kV)) :
    xs.length ≤ sizeLine ∧ (a == sysModules) = false ∧ s.heap.DictOfH (tupleKind (mixKind X.prog X.w)) a xs := by
  obtain ⟨⟨h1, h2, o, es, ep, h3, h4, h5, h6, h7⟩, _⟩ := (show ObjOk X.prog X.w H s.heap a (.ext fun h => DsAt (kwOf X) h a xs) from I.hok a _ hD)
  exact ⟨h1, h2, o, es, ep, h3, h4, h5, h6, fun q hq => key_ofP I (hk q hq), h7⟩
end
theorem s_in_dict (d : D) (es : List (D × D)) : sem2 .inn d (.dict es) = (match dsetOf (.dict es) with
    | some ks => (tupKey d).map fun k => PyData.bool ((ks.any fun y => decide (tupKey y = some k)))
    | none => if entsOk es = true then (keyOf d).map fun k => PyData.bool (lookD es k).isSome else none) := by cases d <;> rfl
theorem s_nin_dict (d : D) (es : List (D × D)) : sem2 .nin d (.dict es) = (match dsetOf (.dict es) with
    | some ks => (tupKey d).map fun k => PyData.bool (!(ks.any fun y => decide (tupKey y = some k)))
    | none => if entsOk es = true then (keyOf d).map fun k => PyData.bool (!(lookD es k).isSome) else none) := by cases d <;> rfl
theorem s_ix_dict (d : D) (es : List (D × D)) : sem2 .ix (.dict es) d = if entsOk es = true then (keyOf d).bind fun k => lookD es k else none := by cases d <;> rfl
theorem o_in (hu : X.A.units + 65 < cLine) : OpR X (compareOp .In) (R2 (kwOf X) .inn) := by
  intro pins s σ H x y v u Q I rx ry h
  obtain ⟨Γ, O, d, e, r, ho, h1, h2, hs, q⟩ := h
  have key : SeqAt.shaped d = true → ∀ ys, (e = .list ys ∨ e = .tuple ys) → allShaped ys = true → r = .bool (inD d ys) → wpAny (model X.prog X.w) X.A (compareOp .In v u) (EP X pins σ Q) X.xe s := fun hd ys he hys hr => by
    subst hr
    obtain ⟨as, r1⟩ := Dp.reads I d x v (h1.dp (shaped_dict hd)) rx
    have hroom : X.A.units + 1 + min (PyData.depthAll ys) d.depth < cLine := by have := depth_of_shaped hd; omega
    rcases he with rfl | rfl
    · obtain ⟨bs, r2⟩ := Dp.reads I _ y u (h2.dp (by simpa [PyData.hasDict] using hasDictAll_of hys)) ry
      exact SeqAt.in_list_reads r2 r1 (canLayAll_of hys) (SeqAt.canLay_of_shaped hd) hroom ⟨.bl _, H, I, rfl, q _ _ (Same.refl _) (.bl _)⟩
    · obtain ⟨bs, r2⟩ := Dp.reads I _ y u (h2.dp (by simpa [PyData.hasDict] using hasDictAll_of hys)) ry
      exact SeqAt.in_tuple_reads r2 r1 (canLayAll_of hys) (SeqAt.canLay_of_shaped hd) hroom ⟨.bl _, H, I, rfl, q _ _ (Same.refl _) (.bl _)⟩
  cases e with
  | list ys =>
    have hs' : (if SeqAt.shaped d = true ∧ allShaped ys = true then some (PyData.bool (inD d ys)) else none) = some r := by cases d <;> simpa [sem2] using hs
    split at hs'
    · rename_i hc
      exact key hc.1 ys (.inl rfl) hc.2 (Option.some.inj hs').symm
    · cases hs'
  | tuple ys =>
    have hs' : (if SeqAt.shaped d = true ∧ allShaped ys = true then some (PyData.bool (inD d ys)) else none) = some r := by cases d <;> simpa [sem2] using hs
    split at hs'
    · rename_i hc
      exact key hc.1 ys (.inr rfl) hc.2 (Option.some.inj hs').symm
    · cases hs'
  | str z =>
    cases d with
    | str c =>
      simp only [sem2] at hs
      split at hs
      · rename_i n hn
        cases hs
        cases h1; cases h2
        have ec := sign1 hn
        subst ec
        exact op_in_sign pins s σ H _ _ v u Q I rx ry ⟨n, z, rfl, rfl, q _ _ (Same.refl _) (.bl _)⟩
      · cases hs
    | _ => simp [sem2] at hs
  | dict es =>
    rw [s_in_dict] at hs
    rcases in_dict (f := id) h1 h2 hs with ⟨a, o, rfl, g, rfl⟩ | ⟨a, xs, k, b, rfl, g1, g2, rfl, g3, rfl⟩
    · obtain rfl : u = Value.ref a := ry
      exact d_in (by omega) I g rx fun s3 I3 => ⟨.bl _, H, I3, rfl, q _ _ (Same.refl _) (.bl _)⟩
    · obtain rfl : u = Value.ref a := ry
      obtain rfl : v = Value.ref b := rx
      obtain ⟨_, lo, dd⟩ := ds_of I g1 fun q hq => (g2 q hq).1
      exact wpAny_in_heap (tupleKind_room_in1 (by omega)) (key_ofP I g3) lo dd ⟨.bl _, H, I.tok _, rfl, q _ _ (Same.refl _) (.bl _)⟩
  | _ => cases d <;> simp [sem2] at hs
theorem o_nin (hu : X.A.units + 65 < cLine) : OpR X (compareOp .NotIn) (R2 (kwOf X) .nin) := by
  intro pins s σ H x y v u Q I rx ry h
  obtain ⟨Γ, O, d, e, r, ho, h1, h2, hs, q⟩ := h
  have key : SeqAt.shaped d = true → ∀ ys, (e = .list ys ∨ e = .tuple ys) → allShaped ys = true → r = .bool (!inD d ys) → wpAny (model X.prog X.w) X.A (compareOp .NotIn v u) (EP X pins σ Q) X.xe s := fun hd ys he hys hr => by
    subst hr
    obtain ⟨as, r1⟩ := Dp.reads I d x v (h1.dp (shaped_dict hd)) rx
    have hroom : X.A.units + 1 + min (PyData.depthAll ys) d.depth < cLine := by have := depth_of_shaped hd; omega
    rcases he with rfl | rfl
    · obtain ⟨bs, r2⟩ := Dp.reads I _ y u (h2.dp (by simpa [PyData.hasDict] using hasDictAll_of hys)) ry
      exact SeqAt.notIn_list_reads r2 r1 (canLayAll_of hys) (SeqAt.canLay_of_shaped hd) hroom ⟨.bl _, H, I, rfl, q _ _ (Same.refl _) (.bl _)⟩
    · obtain ⟨bs, r2⟩ := Dp.reads I _ y u (h2.dp (by simpa [PyData.hasDict] using hasDictAll_of hys)) ry
      exact SeqAt.notIn_tuple_reads r2 r1 (canLayAll_of hys) (SeqAt.canLay_of_shaped hd) hroom ⟨.bl _, H, I, rfl, q _ _ (Same.refl _) (.bl _)⟩
  cases e with
  | list ys =>
    have hs' : (if SeqAt.shaped d = true ∧ allShaped ys = true then some (PyData.bool (!inD d ys)) else none) = some r := by cases d <;> simpa [sem2] using hs
    split at hs'
    · rename_i hc
      exact key hc.1 ys (.inl rfl) hc.2 (Option.some.inj hs').symm
    · cases hs'
  | tuple ys =>
    have hs' : (if SeqAt.shaped d = true ∧ allShaped ys = true then some (PyData.bool (!inD d ys)) else none) = some r := by cases d <;> simpa [sem2] using hs
    split at hs'
    · rename_i hc
      exact key hc.1 ys (.inr rfl) hc.2 (Option.some.inj hs').symm
    · cases hs'
  | str z =>
    cases d with
    | str c =>
      simp only [sem2] at hs
      split at hs
      · rename_i n hn
        cases hs
        cases h1; cases h2
        have ec := sign1 hn
        subst ec
        exact op_notIn_sign pins s σ H _ _ v u Q I rx ry ⟨n, z, rfl, rfl, q _ _ (Same.refl _) (.bl _)⟩
      · cases hs
    | _ => simp [sem2] at hs
  | dict es =>
    rw [s_nin_dict] at hs
    rcases in_dict (f := not) h1 h2 hs with ⟨a, o, rfl, g, rfl⟩ | ⟨a, xs, k, b, rfl, g1, g2, rfl, g3, rfl⟩
    · obtain rfl : u = Value.ref a := ry
      exact d_notIn (by omega) I g rx fun s3 I3 => ⟨.bl _, H, I3, rfl, q _ _ (Same.refl _) (.bl _)⟩
    · obtain rfl : u = Value.ref a := ry
      obtain rfl : v = Value.ref b := rx
      obtain ⟨_, lo, dd⟩ := ds_of I g1 fun q hq => (g2 q hq).1
      exact wpAny_notIn_heap (tupleKind_room_in1 (by omega)) (key_ofP I g3) lo dd ⟨.bl _, H, I.tok _, rfl, q _ _ (Same.refl _) (.bl _)⟩
  | _ => cases d <;> simp [sem2] at hs
theorem atI_reps {K : KW} {H : Hp} {O : Addr → Prop} {vs : List V} {ds : List D} {i : Int} {d : D} (h : Reps K H O vs ds) (e : atI ds i = some d) : ∃ v, atI vs i = some v ∧ Rep K H O v d := by
  unfold atI at e ⊢
  rw [h.length]
  rw [Option.bind_eq_some_iff] at e
  obtain ⟨j, e1, e2⟩ := e
  obtain ⟨v, e3, r⟩ := h.get' e2
  exact ⟨v, by rw [e1]; exact e3, r⟩
theorem o_ix (hu : X.A.units + 64 < cLine) : IxR X (R2 (kwOf X) .ix) := by
  intro value slice pins s σ H x y v u Q I rx ry h hh
  obtain ⟨Γ, O, d, e, r, ho, h1, h2, hs, q⟩ := h
  have dct : ∀ es, d = .dict es → wpAny (model X.prog X.w) X.A (subscriptTail value slice v u) (EP X pins σ Q) X.xe s := fun es hd => by
    subst hd
    rw [s_ix_dict] at hs
    split at hs
    · rename_i hen
      rw [Option.bind_eq_some_iff] at hs
      obtain ⟨k, e1, e2⟩ := hs
      obtain rfl := keyOf_rep h2 e1
      rcases rep_dict h1 with ⟨a, kvs, rfl, g1, g2, g3⟩ | ⟨a, kvs, rfl, g1, _, rfl⟩
      · obtain ⟨w, ew, rw'⟩ := (look_rep g2 k).2 r e2
        obtain rfl : v = Value.ref a := rx
        have g := DGet.k (k := k) g1
        rw [ew] at g
        exact tail_any (ops := [.ref a, u]) (dict_typeIs I g) PySem.F.slot_dict_getitem.lookup (d_getItem (by omega) I g ry fun w' s3 I3 rw3 => ⟨w, H, I3, rw3, q _ _ (Same.refl _) rw'⟩) hh
      · simp [entsOk, keyOf] at hen
    · cases hs
  cases e with
  | int i =>
    cases h2
    cases d with
    | list ds =>
      obtain ⟨a, xs, rfl, t1, r1⟩ := h1
      obtain ⟨w, ew, rw'⟩ := atI_reps r1 (by simpa [sem2] using hs)
      exact ix_seq value slice pins s σ H _ _ v u Q I rx ry (.inl ⟨a, xs, i, w, rfl, rfl, t1.sq, ew, q _ _ (Same.refl _) rw'⟩) hh
    | tuple ds =>
      cases h1 with
      | tup t1 r1 =>
        obtain ⟨w, ew, rw'⟩ := atI_reps r1 (by simpa [sem2] using hs)
        exact ix_seq value slice pins s σ H _ _ v u Q I rx ry (.inr (.inl ⟨_, _, i, w, rfl, rfl, t1.sq, ew, q _ _ (Same.refl _) rw'⟩)) hh
    | str z =>
      cases h1 with
      | str _ hl =>
        simp only [sem2, Option.map_eq_some_iff] at hs
        obtain ⟨c, ec, rfl⟩ := hs
        exact ix_seq value slice pins s σ H _ _ v u Q I rx ry (.inr (.inr ⟨z, i, c, rfl, rfl, hl, ec, q _ _ (Same.refl _) (.str _ (by show 1 ≤ sizeLine; rw [sizeLine_eq]; decide))⟩)) hh
    | dict es => exact dct es rfl
    | _ => simp [sem2] at hs
  | _ => cases d <;> first | exact dct _ rfl | (simp [sem2] at hs; done)
/-- slices -/
def RSl (K : KW) : V → Option Int → Option Int → Hp → VK → Prop := fun v lo hi H Q => ∃ Γ O d r, OTr O H ∧ RRep K Γ H O v d ∧ semSl d lo hi = some r ∧ ∀ v' H', Same H H' → Rep K H' O v' r → Q v' H'
theorem cut_reps {K : KW} {H : Hp} {O : Addr → Prop} {vs : List V} {ds : List D} {lo hi : Option Int} (h : Reps K H O vs ds) : Reps K H O (cutV vs lo hi) (cutD ds lo hi) := by
  unfold cutV cutD
  rw [h.length]
  exact (h.drop _).take _
theorem sl_any : SlR X (RSl (kwOf X)) := by
  intro pins s σ H x v vl vu lo hi sl Q I rx hs pl pu h
  obtain ⟨Γ, O, d, r, ho, h1, hsl, q⟩ := h
  cases d with
  | list ds =>
    obtain ⟨a, xs, rfl, t1, r1⟩ := h1
    simp [semSl] at hsl; subst hsl
    exact sl_list pins s σ H _ v vl vu lo hi sl Q I rx hs pl pu ⟨a, xs, rfl, t1.sq, fun p hp => q _ _ (same_upd hp) (mkL ho hp (cut_reps r1))⟩
  | tuple ds =>
    cases h1 with
    | tup t1 r1 =>
      simp [semSl] at hsl; subst hsl
      refine sl_tupF pins s σ H _ v vl vu lo hi sl Q I rx hs pl pu ⟨_, _, rfl, t1.sq, fun hw => ?_, fun _ p o hp hd => q _ _ (same_upd hp) (mkT hp hd (cut_reps r1))⟩
      have e : cutD ds lo hi = ds := by
        unfold cutD
        rw [← r1.length, hw.1, hw.2, r1.length]
        simp
      rw [e] at q
      exact q _ _ (Same.refl _) (.tup t1 r1)
  | str z =>
    cases h1 with
    | str _ hl =>
      simp [semSl] at hsl; subst hsl
      refine sl_str pins s σ H _ v vl vu lo hi sl Q I rx hs pl pu ⟨z, rfl, hl, q _ _ (Same.refl _) (.str _ ?_)⟩
      have : (cutS z lo hi).length ≤ z.length := by
        rw [TL.len_tl, TL.len_tl]
        show ((TL.tl z |>.drop _).take _).length ≤ _
        rw [List.length_take, List.length_drop]
        omega
      omega
  | _ => simp [semSl] at hsl
end
end Tk
namespace Tk
open PySem PySem.Spec PyProof.Rows L2
theorem l1_ex {r : V → Hp → VK → Prop} {xs : List V} {H : Hp} {Q : VK} (h : l1 r xs H Q) : ∃ x, xs = [x] ∧ r x H Q := by
  match xs, h with
  | [x], h => exact ⟨x, rfl, h⟩
theorem l2_ex {r : V → V → Hp → VK → Prop} {xs : List V} {H : Hp} {Q : VK} (h : l2 r xs H Q) : ∃ x y, xs = [x, y] ∧ r x y H Q := by
  match xs, h with
  | [x, y], h => exact ⟨x, y, rfl, h⟩
section
variable {X : Cx}
theorem c_int : CallR X (.type "int") (l1 (R1 (kwOf X) .int)) := by
  intro pins s σ H xs us Q I r h
  obtain ⟨x, rfl, Γ, O, d, r', ho, h1, hs, q⟩ := l1_ex h
  cases d with
  | int i =>
    cases h1; simp [sem1] at hs; subst hs
    exact call_int1 pins s σ H _ us Q I r (.inl ⟨i, rfl, q _ _ (Same.refl _) (.int _)⟩)
  | bool b =>
    cases h1; simp [sem1] at hs; subst hs
    exact call_int1 pins s σ H _ us Q I r (.inr ⟨b, rfl, q _ _ (Same.refl _) (by simpa using Rep.int _)⟩)
  | str z =>
    cases h1
    simp only [sem1] at hs
    split at hs
    · rename_i hz
      obtain ⟨n, hn, e⟩ := Option.map_eq_some_iff.mp hs
      subst e
      exact call_int_str pins s σ H _ us Q I r ⟨z, n, rfl, hn, hz, q _ _ (Same.refl _) (.int _)⟩
    · cases hs
  | _ => simp [sem1] at hs
theorem c_str : CallR X (.type "str") (l1 (R1 (kwOf X) .str)) := by
  intro pins s σ H xs us Q I r h
  obtain ⟨x, rfl, Γ, O, d, r', ho, h1, hs, q⟩ := l1_ex h
  cases d with
  | int i =>
    cases h1
    simp only [sem1] at hs
    split at hs
    · rename_i hz
      cases hs
      exact call_str_int pins s σ H _ us Q I r ⟨i, rfl, hz.1, q _ _ (Same.refl _) (.str _ hz.2)⟩
    · cases hs
  | _ => simp [sem1] at hs
theorem c_max2 (hc : X.calm = true) : CallR X (.builtin "max") (l2 (R2 (kwOf X) .max2)) := by
  intro pins s σ H xs us Q I r h
  obtain ⟨x, y, rfl, Γ, O, d, e, r', ho, h1, h2, hs, q⟩ := l2_ex h
  cases d with
  | int i =>
    cases e with
    | int j =>
      cases h1; cases h2; simp only [sem2, Option.some.injEq] at hs; subst hs
      exact call_max2 hc pins s σ H _ us Q I r ⟨i, j, rfl, q _ _ (Same.refl _) (.int _)⟩
    | _ => simp [sem2] at hs
  | _ => cases e <;> simp [sem2] at hs
theorem c_min2 (hc : X.calm = true) : CallR X (.builtin "min") (l2 (R2 (kwOf X) .min2)) := by
  intro pins s σ H xs us Q I r h
  obtain ⟨x, y, rfl, Γ, O, d, e, r', ho, h1, h2, hs, q⟩ := l2_ex h
  cases d with
  | int i =>
    cases e with
    | int j =>
      cases h1; cases h2; simp only [sem2, Option.some.injEq] at hs; subst hs
      exact call_min2 hc pins s σ H _ us Q I r ⟨i, j, rfl, q _ _ (Same.refl _) (.int _)⟩
    | _ => simp [sem2] at hs
  | _ => cases e <;> simp [sem2] at hs
theorem each_of {K : KW} {H : Hp} {O : Addr → Prop} {s : Shared} : ∀ {vs : List V} {us : List Value} {ds : List D}, Vals vs us → Reps K H O vs ds → PySem.W.EachIs (fun v d => ∃ x, RelV x v ∧ Rep K H O x d) us ds
  | [], _, _, .nil, h => by cases h; exact .nil
  | _ :: _, _, _, .cons r rs, h => by
    cases h with
    | cons h1 h2 => exact .cons ⟨_, r, h1⟩ (each_of (s := s) rs h2)
theorem of_each {K : KW} {H : Hp} {O : Addr → Prop} : ∀ {us : List Value} {ds : List D}, PySem.W.EachIs (fun v d => ∃ x, RelV x v ∧ Rep K H O x d) us ds → ∃ vs, Vals vs us ∧ Reps K H O vs ds
  | _, _, .nil => ⟨[], .nil, .nil⟩
  | _, _, .cons ⟨x, r, h⟩ e => by
    obtain ⟨vs, a, b⟩ := of_each e
    exact ⟨x :: vs, .cons r a, .cons h b⟩
theorem keys_rep {K : KW} {H : Hp} {O : Addr → Prop} : ∀ (k : List Key), (∀ x, Sum.inr x ∈ k → x.length ≤ sizeLine) → Reps K H O (k.map kV) (k.map kD)
  | [], _ => .nil
  | .inl i :: k, h => .cons (.int i) (keys_rep k fun x hx => h x (by simp [hx]))
  | .inr y :: k, h => .cons (.str y (h y (by simp))) (keys_rep k fun x hx => h x (by simp [hx]))
theorem s_sorted_dict (es : List (D × D)) : sem1 .sorted (.dict es) = (dsetOf (.dict es)).bind fun xs => if sortOk xs = true ∧ xs.length ≤ 4000000 then some (.list (sortD xs)) else none := by
  unfold dsetOf
  split
  · rename_i ks e
    cases e
    rfl
  · rename_i h
    simp only [Option.bind_none]
    unfold sem1
    split <;> first | rfl | skip
    all_goals first | (rename_i e; cases e; exact absurd rfl (h _)) | (exact absurd rfl (h _)) | (exfalso; simp_all; done)
theorem ds_each {K : KW} {H : Hp} {O : Addr → Prop} : ∀ {xs : List (List Key × Addr × Value)}, (∀ q ∈ xs, TupP H q.2.1 (q.1.map kV) ∧ ∀ x, Sum.inr x ∈ q.1 → x.length ≤ sizeLine) →
    PySem.W.EachIs (fun v d => ∃ x, RelV x v ∧ Rep K H O x d) (xs.map fun p => Value.ref p.2.1) ((xs.map (·.1)).map tD)
  | [], _ => .nil
  | q :: xs, h => .cons ⟨.ref q.2.1, rfl, .tup (h q (by simp)).1 (keys_rep q.1 (h q (by simp)).2)⟩ (ds_each fun r hr => h r (by simp [hr]))
theorem reads_keys {h : Heap} : ∀ (k : List Key) {vs : List Value} {as : List Addr}, ReadsAll h vs (k.map kD) as → as = []
  | [], _, _, r => by cases r; rfl
  | .inl i :: k, _, _, r => by
    cases r with
    | cons r1 r2 => cases r1; rw [reads_keys k r2]; rfl
  | .inr x :: k, _, _, r => by
    cases r with
    | cons r1 r2 => cases r1; rw [reads_keys k r2]; rfl
theorem reads_tD {h : Heap} {k : List Key} {v : Value} {as : List Addr} (r : Reads h v (tD k) as) : as = [] := by
  unfold tD at r
  cases r with
  | tuple _ _ _ r => exact reads_keys k r
theorem c_sorted (hcm : X.calm = true) (hu : X.A.units + 100 < cLine) : CallR X (.builtin "sorted") (l1 (R1 (kwOf X) .sorted)) := by
  intro pins s σ H xs us Q I r h
  obtain ⟨x, rfl, Γ, O, d, r', ho, h1, hs, q⟩ := l1_ex h
  cases d with
  | list ds =>
    obtain ⟨a, vs, rfl, t1, r1⟩ := h1
    simp only [sem1] at hs
    split at hs
    · rename_i hk
      cases hs
      simp only [sortOk, Bool.and_eq_true, Bool.or_eq_true, List.all_eq_true] at hk
      obtain ⟨⟨k1, k2⟩, k3⟩ := hk
      obtain ⟨its, rv, hl, hz⟩ := I.list t1.sq
      rw [Vals.ref1 r]
      have sh : ∀ d ∈ ds, SeqAt.shaped d = true := List.all_eq_true.mp k1
      have hd : ∀ d ∈ ds, d.hasDict = false := fun d h => shaped_dict (sh d h)
      have e0 := each_of (s := s) rv r1
      have er : PySem.W.EachIs (fun v b => ∃ as, Reads s.heap v (id b) as) its ds := by
        have go : ∀ {us : List Value} {ds : List D}, (∀ d ∈ ds, d.hasDict = false) → PySem.W.EachIs (fun v d => ∃ x, RelV x v ∧ Rep (kwOf X) H O x d) us ds → PySem.W.EachIs (fun v b => ∃ as, Reads s.heap v (id b) as) us ds := by
          intro us ds hd e
          induction e with
          | nil => exact .nil
          | @cons a b as bs h e ih =>
            obtain ⟨x, rx, hx⟩ := h
            exact .cons (Dp.reads I b x a (Rep.dp b x (hd b (by simp)) hx) rx) (ih fun d h => hd d (by simp [h]))
        exact go hd e0
      refine PySem.W.sorted_data (enc := id) hl.isList e0 er ?_ ?_ ?_ ?_ fun out ho' eo => ?_
      · rw [List.map_id]
        exact fun d h d' h' => k2 d h d' h'
      · rw [List.map_id]
        rcases k3 with k3 | k3
        · refine .inl fun d h => ?_
          have := k3 d h
          cases d with
          | tuple xs =>
            cases xs with
            | nil => simp [tupNE] at this
            | cons x r => exact ⟨x, r, rfl⟩
          | _ => simp [tupNE] at this
        · refine .inr fun d h => ?_
          have := k3 d h
          cases d with
          | none => simp [noTup] at this
          | tuple xs => simp [noTup] at this
          | _ => exact ⟨by simp, fun xs z => by cases z⟩
      · rw [← r1.length]; exact hz
      · intro b hb
        have := depth_of_shaped (sh b hb)
        show X.A.units + 2 + b.depth < cLine
        omega
      · obtain ⟨ys, ry, hy⟩ := of_each eo
        obtain ⟨ep, he'⟩ := PyProof.Rows.sortedAll_at s.heap its out.toArray
        have hlen : ys.length ≤ sizeLine := by rw [ry.length, ho', ← r1.length]; exact hz
        have hp := I.hok.fresh (Nat.le_succ s.heap.objs.size)
        exact ⟨.ref _, upd H (s.heap.objs.size + 1) (.lst ys), I.laid (t' := s.toks) (fun _ _ => PyProof.Rows.sortedAll_old) (Nat.le_succ _) ⟨hlen, out, ep, by simpa using ry, he'⟩, rfl, q _ _ (same_upd hp) (mkL ho hp hy)⟩
    · cases hs
  | dict es =>
    rw [s_sorted_dict] at hs
    rcases rep_dict h1 with ⟨a, kvs, rfl, g1, g2, g3⟩ | ⟨a, xs, rfl, g1, g2, rfl⟩
    · rw [g3] at hs; cases hs
    simp only [dsetOf, Option.bind_some] at hs
    split at hs
    · rename_i hk0
      obtain ⟨hk, h4m⟩ := hk0
      cases hs
      simp only [sortOk, Bool.and_eq_true, Bool.or_eq_true, List.all_eq_true] at hk
      obtain ⟨⟨k1, k2⟩, k3⟩ := hk
      rw [Vals.ref1 r]
      obtain ⟨z, lo, dd⟩ := ds_of I g1 fun q hq => (g2 q hq).1
      obtain ⟨ens, ep, hraw, hsz, hent⟩ := dd.raw
      have sh : ∀ d ∈ (xs.map (·.1)).map tD, SeqAt.shaped d = true := List.all_eq_true.mp k1
      have hd : ∀ d ∈ (xs.map (·.1)).map tD, d.hasDict = false := fun d h => shaped_dict (sh d h)
      refine Calls.call_function_entry PyProof.Rows.kind_sorted PyProof.Rows.plain_sorted PyProof.Rows.entry_sorted (PyProof.Rows.args_sorted1 _) ?_
      unfold Builtin.«sorted»
      refine wpAny_bind (m := checkCount "sorted" 1 1 _) (wpAny_pure ?_)
      refine wpAny_bind (PySem.W.kdu_collect (A := X.A.in1) (KdlSrc.rawDict (es := ens) (ep := ep) lo) (I.ok.hd hcm) hraw (by rw [hsz]; exact z) fun h' tk acc hk' hacc => ?_)
      have ea : acc.toList = xs.map fun p => Value.ref p.2.1 := by
        apply List.ext_getElem?
        intro i
        rw [Array.getElem?_toList, List.getElem?_map]
        by_cases hi : i < ens.size
        · have hi2 : i < acc.size := by rw [hacc.1]; exact hi
          obtain ⟨hi3, e1⟩ := hacc.2 i acc[i] (Array.getElem?_eq_getElem hi2)
          obtain ⟨y, e2, e3, _⟩ := hent i hi
          rw [Array.getElem?_eq_getElem hi2, e1, e3, e2]; rfl
        · rw [Array.getElem?_eq_none (by rw [hacc.1]; omega), List.getElem?_eq_none (by omega)]; rfl
      have I1 : Inv X pins σ H { s with heap := h', toks := tk } := I.kept hk'
      have e0 := ds_each (K := (kwOf X)) (O := O) g2
      have lenB : ((xs.map (·.1)).map tD).length ≤ sizeLine := by rw [List.length_map, List.length_map]; exact z
      refine wpAny_bind (wpAny_newList ?_ (by rw [ea, List.length_map]; exact z))
      rw [ea]
      have hoL : (h'.push (seqObj "list" (xs.map fun p => Value.ref p.2.1).toArray 0)).get? h'.objs.size = some (seqObj "list" (xs.map fun p => Value.ref p.2.1).toArray 0) := Heap.get?_push_size _ rfl
      show wpAny _ _ _ _ _ { s with heap := h'.push (seqObj "list" (xs.map fun p => Value.ref p.2.1).toArray 0), toks := tk }
      have er : PySem.W.EachIs (fun v b => ∃ as, Reads (h'.push (seqObj "list" (xs.map fun p => Value.ref p.2.1).toArray 0)) v (id b) as ∧ h'.objs.size ∉ as) (xs.map fun p => Value.ref p.2.1) ((xs.map (·.1)).map tD) := by
        have go : ∀ {us : List Value} {ds : List D}, (∀ d ∈ ds, d.hasDict = false) → (∀ d ∈ ds, ∃ k, d = tD k) → PySem.W.EachIs (fun v d => ∃ x, RelV x v ∧ Rep (kwOf X) H O x d) us ds → PySem.W.EachIs (fun v b => ∃ as, Reads (h'.push (seqObj "list" (xs.map fun p => Value.ref p.2.1).toArray 0)) v (id b) as ∧ h'.objs.size ∉ as) us ds := by
          intro us ds hd hk e
          induction e with
          | nil => exact .nil
          | @cons a b as bs h e ih =>
            obtain ⟨x, rx, hx⟩ := h
            obtain ⟨k, rfl⟩ := hk b (by simp)
            obtain ⟨as, rd⟩ := Dp.reads I1 _ x a (Rep.dp _ x (hd _ (by simp)) hx) rx
            have : as = [] := reads_tD rd
            subst this
            exact .cons ⟨[], PyProof.Rows.Reads.keeps (fun b o e => Heap.get?_push_of_some _ e) rd, by simp⟩ (ih (fun d h => hd d (by simp [h])) fun d h => hk d (by simp [h]))
        exact go hd (fun d h => by obtain ⟨k, _, rfl⟩ := List.mem_map.mp h; exact ⟨k, rfl⟩) e0
      refine wpAny_bind (wpAny_holding (PySem.W.list_sort_data (s := { s with heap := h'.push (seqObj "list" (xs.map fun p => Value.ref p.2.1).toArray 0), toks := tk }) (enc := id) hoL e0 er ?_ ?_ lenB ?_ fun out ho' eo => ?_))
      · rw [List.map_id]
        exact fun d h d' h' => k2 d h d' h'
      · rw [List.map_id]
        rcases k3 with k3 | k3
        · refine .inl fun d h => ?_
          have := k3 d h
          cases d with
          | tuple xs =>
            cases xs with
            | nil => simp [tupNE] at this
            | cons x r => exact ⟨x, r, rfl⟩
          | _ => simp [tupNE] at this
        · refine .inr fun d h => ?_
          have := k3 d h
          cases d with
          | none => simp [noTup] at this
          | tuple xs => simp [noTup] at this
          | _ => exact ⟨by simp, fun xs z => by cases z⟩
      · intro b hb
        have := depth_of_shaped (sh b hb)
        show X.A.units + 1 + 1 + b.depth < cLine
        omega
      · obtain ⟨ys, ry, hy⟩ := of_each eo
        obtain ⟨e', he'⟩ := PyProof.Rows.sortedHeap_at (vs := xs.map fun p => Value.ref p.2.1) (out := out.toArray) hoL
        have hlen2 : ys.length ≤ sizeLine := by rw [ry.length, ho']; exact lenB
        have hp := I1.hok.fresh (Nat.le_refl h'.objs.size)
        refine wpAny_pure ⟨_, rfl, .ref h'.objs.size, upd H h'.objs.size (.lst ys), I1.laid (t' := tk) (fun b u e => ?_) (Nat.le_refl _) ⟨hlen2, out, e', by simpa using ry, he'⟩, rfl, q _ _ (same_upd hp) (mkL ho hp hy)⟩
        have hb : b < h'.objs.size := Heap.lt_size e
        rw [PyProof.Rows.sortedHeap_old (Nat.ne_of_lt hb) (by rw [Heap.size_push]; exact Nat.lt_succ_of_lt hb)]
        exact Heap.get?_push_of_some _ e
    · cases hs
  | _ => simp [sem1] at hs
theorem ints_hold {h : Heap} : ∀ {is : List Int} {us : List Value}, Vals (is.map V.int) us → ∃ as, ReadsAll h us (is.map PyData.int) as
  | [], _, .nil => ⟨[], .nil⟩
  | i :: is, _, .cons r rs => by
    obtain ⟨t, rfl⟩ := r
    obtain ⟨as, q⟩ := ints_hold (h := h) (is := is) rs
    exact ⟨_, .cons (.int ..) q⟩
/-- max(xs, default=0) -/
def rMax0 (K : KW) : List V → List V → Hp → VK → Prop := fun xs zs H Q => ∃ v, xs = [v] ∧ zs = [.int 0] ∧ R1 K .max0 v H Q
theorem maxOf_maxI (y : Int) (ys : List Int) : PySem.W.maxOf y ys = maxI (y :: ys) := by
  unfold PySem.W.maxOf maxI
  congr 1
  funext a b
  show (if decide (a < b) = true then b else a) = _
  simp
theorem ck_max0 (hc : X.calm = true) (hu : X.A.units + 100 < cLine) : CallRK X (.builtin "max") [Str.ofString "default"] (rMax0 (kwOf X)) := by
  intro pins s σ H xs zs us ws Q I r rz h
  obtain ⟨v, rfl, rfl, Γ, O, d, r', ho, h1, hs, q⟩ := h
  cases d with
  | list ds =>
    obtain ⟨a, vs, rfl, t1, r1⟩ := h1
    simp only [sem1, Option.map_eq_some_iff] at hs
    obtain ⟨is, e, rfl⟩ := hs
    have e2 := r1.ints e
    subst e2
    obtain ⟨its, rv, hl, hz⟩ := I.list t1.sq
    rw [Vals.ref1 r]
    cases rz with
    | cons rz0 rz1 =>
      cases rz1
      obtain ⟨t, rfl⟩ := rz0
      have hh : X.A.handled = none := I.ok.hd hc
      have hold : PySem.W.HoldAll s.heap its.toArray.toList is := ints_hold rv
      refine PySem.W.max_list_datum_default (d := .int 0 t) hh hl.isList hold (by show X.A.units + 1 + 0 < cLine; omega) (fun e0 h' tk hk => ?_) fun y ys i v h' tk ey hi hv hk => ?_
      · subst e0
        exact ⟨.int 0, H, I.kept hk, ⟨_, rfl⟩, q _ _ (Same.refl _) (.int _)⟩
      · subst ey
        obtain ⟨as, rd⟩ := hv
        rw [maxOf_maxI] at rd
        cases rd
        exact ⟨.int _, H, I.kept hk, ⟨_, rfl⟩, q _ _ (Same.refl _) (.int _)⟩
  | _ => simp [sem1] at hs
end
end Tk
namespace Tk
open PySem PySem.Spec PyProof.Rows L2 HT
open PySem.SeqAt
open PySem.MeetsSeq PySem.MeetsSeq2 PySem.MeetsSeq3
theorem Reps.rev {K : KW} {H : Hp} {O : Addr → Prop} : ∀ {vs : List V} {ds : List D}, Reps K H O vs ds → Reps K H O vs.reverse ds.reverse
  | [], [], _ => .nil
  | [], _ :: _, h => by cases h
  | _ :: _, [], h => by cases h
  | v :: vs, d :: ds, h => by
    cases h with
    | cons h1 h2 =>
      rw [List.reverse_cons, List.reverse_cons]
      exact (Reps.rev h2).append (.cons h1 .nil)
theorem places_rev (n : Nat) : Builtin.Slice.slicePlaces ((n : Int) - 1) (-1) (-1) = n := by
  unfold Builtin.Slice.slicePlaces
  have h1 : ¬ ((-1 : Int) > 0) := by omega
  simp only [h1, if_false, Int.neg_neg, Int.ediv_one]
  split <;> omega
theorem fm_map {α β : Type} {f : α → Option β} {g : α → β} : ∀ l : List α, (∀ m ∈ l, f m = some (g m)) → l.filterMap f = l.map g
  | [], _ => rfl
  | a :: l, h => by
    rw [List.filterMap_cons, h a (by simp), List.map_cons, fm_map l fun m hm => h m (by simp [hm])]
theorem pick_rev (xs : Array Value) : ((List.range xs.size).filterMap fun (m : Nat) => xs[(((xs.size : Int) - 1) + (m : Int) * (-1)).toNat]?).toArray = xs.toList.reverse.toArray := by
  congr 1
  apply List.ext_getElem?
  intro i
  by_cases hi : i < xs.size
  · have h1 : ∀ m, m < xs.size → xs[(((xs.size : Int) - 1) + (m : Int) * (-1)).toNat]? = some (xs.toList.reverse.getD m .none) := fun m hm => by
      have e : (((xs.size : Int) - 1) + (m : Int) * (-1)).toNat = xs.size - 1 - m := by omega
      rw [e]
      have : xs.size - 1 - m < xs.size := by omega
      rw [Array.getElem?_eq_getElem this, List.getD_eq_getElem?_getD, List.getElem?_reverse (by simpa using hm)]
      simp [this]
    have h2 : (List.range xs.size).filterMap (fun (m : Nat) => xs[(((xs.size : Int) - 1) + (m : Int) * (-1)).toNat]?) = (List.range xs.size).map fun m => xs.toList.reverse.getD m .none := by
      exact fm_map _ fun m hm => h1 m (List.mem_range.mp hm)
    rw [h2, List.getElem?_map, List.getElem?_range hi]
    have : i < xs.toList.reverse.length := by simpa using hi
    simp only [Option.map_some, List.getD_eq_getElem?_getD, List.getElem?_eq_getElem this, Option.getD_some]
  · have h3 : ((List.range xs.size).filterMap fun (m : Nat) => xs[(((xs.size : Int) - 1) + (m : Int) * (-1)).toNat]?).length ≤ xs.size := by
      have := List.length_filterMap_le (fun (m : Nat) => xs[(((xs.size : Int) - 1) + (m : Int) * (-1)).toNat]?) (List.range xs.size)
      simpa using this
    rw [List.getElem?_eq_none (by omega), List.getElem?_eq_none (by simp; omega)]
section
variable {prog : Program} {w : World} {A : Around} {E : Value → Shared → Prop} {s : Shared}
theorem sliceApplied_rev {sl : Addr} {vl vu vs : Value} {n : Nat} {Q : Int × Int × Nat → Shared → Prop} (hs : s.heap.IsSliceOf sl vl vu vs) (pl : IsPart vl none) (pu : IsPart vu none) (ps : IsPart vs (some (-1)))
    (h : Q ((n : Int) - 1, -1, n) s) : wpAny (model prog w) A (Builtin.Slice.sliceApplied (.ref sl) (pure (n : Int))) Q E s := by
  obtain ⟨os, hos, hcs, hds⟩ := id hs
  unfold Builtin.Slice.sliceApplied Builtin.Slice.sliceFields
  refine wpAny_bind (wpAny_bind (wpAny_field hos hds (x := vl) rfl (wpAny_bind (wpAny_field hos hds (x := vu) rfl (wpAny_bind (wpAny_field hos hds (x := vs) rfl (wpAny_pure ?_)))))))
  refine wpAny_bind (slicePart_ ps ?_)
  show wpAny _ _ (if ((-1 : Int) == 0) = true then _ else _) _ _ s
  rw [if_neg (by decide)]
  refine wpAny_bind (slicePart_ pl (wpAny_bind (slicePart_ pu (wpAny_bind (wpAny_pure ?_)))))
  show wpAny _ _ (pure ((n : Int) - 1, (-1 : Int), Builtin.Slice.slicePlaces ((n : Int) - 1) (-1) (-1))) _ _ s
  rw [places_rev]
  exact wpAny_pure h
theorem getItem_tuple_rev {t sl : Addr} {items : Array Value} {vl vu vs : Value} {Q : Value → Shared → Prop} (ht : IsTup s.heap t items) (hs : s.heap.IsSliceOf sl vl vu vs) (pl : IsPart vl none) (pu : IsPart vu none) (ps : IsPart vs (some (-1)))
    (h : Q (.ref s.heap.objs.size) { s with heap := s.heap.push { cls := .type "tuple", data := .seq items.toList.reverse.toArray } })
    (hsz : items.size ≤ sizeLine) : wpAny (model prog w) A (getItem (.ref t) (.ref sl)) Q E s := by
  have htake : sizeOk (.seq items.toList.reverse.toArray) := by
    show items.toList.reverse.toArray.size ≤ sizeLine
    simpa using hsz
  obtain ⟨os, hos, hcs, hds⟩ := id hs
  have hTs : s.TypeIs (.ref sl) "slice" := ⟨os, hos, hcs⟩
  unfold getItem
  try with_reducible refine wpAny_holding ?_
  first | refine wpAny_bind (wpAny_pure ?_) | skip
  refine wpAny_bind (wpAny_sequenceKey ht.typeIs (by decide) ?_)
  refine wpAny_bind (wpAny_callSpecial?_slot (name := Str.ofString "__getitem__") ht.typeIs PyProof.Rows.slot_tuple_getitem
    (wpAny_call_entry PyProof.Rows.slot_tuple_getitem ht.typeIs entry_tuple_getitem ?_ (args_tuple_getitem _ _)))
  show wpAny _ _ (Builtin.Tuple.tupleItemsOf (.ref t) >>= _) _ _ s
  refine wpAny_bind (tupleItemsOf_ ht ?_)
  refine wpAny_bind (wpAny_typeOf hTs ?_)
  rw [if_pos (by decide)]
  refine wpAny_bind (sliceApplied_rev hs pl pu ps ?_)
  have hno : ¬ ((((items.size : Int) - 1) == 0 && (-1 : Int) == 1 && items.size == items.size) = true) := by simp
  show wpAny _ _ (if (((items.size : Int) - 1) == 0 && (-1 : Int) == 1 && items.size == items.size) = true then _ else _) _ _ s
  rw [if_neg hno, pick_rev]
  first
    | exact wpAny_bind (m := Builtin.Tuple.tupleExact _) (wpAny_newObj_type (wpAny_pure ⟨_, rfl, wpAny_pure h⟩) htake)
    | exact wpAny_bind (m := Builtin.Tuple.tupleExact _) (wpAny_newObj_type (wpAny_bind (wpAny_pure (wpAny_pure ⟨_, rfl, wpAny_pure h⟩))) htake)
    | exact wpAny_bind (wpAny_bind (m := Builtin.Tuple.tupleExact _) (wpAny_newObj_type (wpAny_pure (wpAny_pure ⟨_, rfl, wpAny_pure h⟩)) htake))
    | exact wpAny_bind (wpAny_bind (m := Builtin.Tuple.tupleExact _) (wpAny_newObj_type (wpAny_pure ⟨_, rfl, wpAny_pure h⟩) htake))
end
theorem pe_rev {X : Cx} {e : Expr} {te : TE} {k : Nat} {p1 p2 p3 pos : Pos} (he : PE X e te) : PE X (.Subscript e (.Slice none none (some (.UnaryOp .USub (.Constant (.int 1) k p1) p2)) p3) pos) (tUn (R1 (kwOf X) .rev) te) := by
  refine ⟨fun pins s σ H Q I h => ?_⟩
  refine Subscript_ (thn (he.run pins s σ H _ I h) fun v s1 ⟨x, H1, I1, r1, q1⟩ => ?_)
  obtain ⟨Γ, O, d, r, ho, h1, hs, q⟩ := q1
  have hst : PO X (some (.UnaryOp .USub (.Constant (.int 1) k p1) p2)) (tPart (tUn (rU fun i => .int (-i)) (tC (.int 1)))) := po_some (pe_un un_neg pe_int)
  refine wpAny_Slice (thn (po_none.run pins s1 σ H1 (fun o G => o = none ∧ G = H1) I1 ⟨rfl, rfl⟩) fun vl s2 ⟨l, G2, I2, pl, el, e2⟩ => ?_)
  subst el e2
  refine thn (po_none.run pins s2 σ G2 (fun o G => o = none ∧ G = G2) I2 ⟨rfl, rfl⟩) fun vu s3 ⟨u, G3, I3, pu, eu, e3⟩ => ?_
  subst eu e3
  refine thn (hst.run pins s3 σ G3 (fun o G => o = some (-1) ∧ G = G3) I3 ⟨1, rfl, -1, rfl, rfl, rfl⟩) fun vs s4 ⟨o, G4, I4, ps, eo, e4⟩ => ?_
  subst eo e4
  have I5 : Inv X pins σ G4 { s4 with heap := s4.heap.push { cls := .type "slice", data := .fields #[vl, vu, vs] } } := I4.kept (t' := s4.toks) fun b ob q => Heap.get?_push_of_some _ q
  have hp := I5.hok.fresh (Nat.le_refl _)
  cases d with
  | list ds =>
    obtain ⟨a, xs, rfl, t1, rs⟩ := h1
    cases r1
    simp only [sem1, Option.some.injEq] at hs
    subst hs
    obtain ⟨its, rv, ht, hz⟩ := I5.list t1.sq
    have hlen := rv.length
    show wpAny (model X.prog X.w) X.A (subscriptTail e (.Slice none none (some (.UnaryOp .USub (.Constant (.int 1) k p1) p2)) p3) (.ref a) (.ref s4.heap.objs.size)) (EP X pins σ Q) X.xe { s4 with heap := s4.heap.push { cls := .type "slice", data := .fields #[vl, vu, vs] } }
    refine tail_any (ops := [.ref a, .ref s4.heap.objs.size]) ht.isList.typeIs (PySem.slot_list_getitem.lookup) ?_ (by with_unfolding_all rfl)
    refine wpAny_getItem_list_slice ht.isList (Heap.IsSliceOf.new _ vl vu vs) pl pu ps (by decide) ?_ (by rw [List.size_toArray]; omega)
    rw [PySem.W.krv_pick]
    refine ⟨.ref _, _, I5.laid (t' := s4.toks) (o := .lst xs.reverse) (fun b ob q => Heap.get?_push_of_some _ q) (Nat.le_refl _) ?_, rfl, q _ _ (same_upd hp) (mkL ho hp (Reps.rev rs))⟩
    exact ⟨by rw [List.length_reverse]; exact hz, _, 0, rv.reverse, Heap.get?_push_size _ rfl⟩
  | tuple ds =>
    cases h1 with
    | @tup a xs _ t1 rs =>
      cases r1
      simp only [sem1, Option.some.injEq] at hs
      subst hs
      obtain ⟨its, rv, ht, hz⟩ := I5.tuple t1.sq
      have hlen := rv.length
      show wpAny (model X.prog X.w) X.A (subscriptTail e (.Slice none none (some (.UnaryOp .USub (.Constant (.int 1) k p1) p2)) p3) (.ref a) (.ref s4.heap.objs.size)) (EP X pins σ Q) X.xe { s4 with heap := s4.heap.push { cls := .type "slice", data := .fields #[vl, vu, vs] } }
      refine tail_any (ops := [.ref a, .ref s4.heap.objs.size]) ht.typeIs (PyProof.Rows.slot_tuple_getitem.lookup) ?_ (by with_unfolding_all rfl)
      refine getItem_tuple_rev ht (Heap.IsSliceOf.new _ vl vu vs) pl pu ps ?_ (by rw [List.size_toArray]; omega)
      have nt := newT I5 (by rw [List.length_reverse]; exact hz) rv.reverse (Q := Q) fun p o hp hd => q _ _ (same_upd hp) (mkT hp hd (Reps.rev rs))
      simpa using nt
  | _ => simp [sem1] at hs
end Tk
/-! E1: {x: True for x in rows}, rows being tuples of texts and numbers. -/
namespace Tk
open PySem PySem.Spec PyProof.Rows L2
theorem ds_ok {X : Cx} {H : Hp} {h : Heap} {a : Addr} {xs : List (List Key × Addr × Value)} (d : DsAt (kwOf X) h a xs) : ObjOk X.prog X.w H h a (DsO (kwOf X) a xs) := by
  refine ⟨d, ?_, fun h1 h2 d1 st => ?_⟩
  · obtain ⟨_, _, o, _, _, e, _⟩ := d
    exact ⟨o, e⟩
  · obtain ⟨a1, a2, o, es, ep, e, r⟩ := d1
    exact ⟨a1, a2, o, es, ep, st o e, r⟩
theorem ds_empty {X : Cx} {H : Hp} (h : Heap) (hb : sysModules < h.objs.size) : ObjOk X.prog X.w H (h.push { cls := .type "dict", data := .dict #[] }) h.objs.size (DsO (kwOf X) h.objs.size []) :=
  ds_ok ⟨Nat.zero_le _, beq_eq_false_iff_ne.mpr (Ne.symm (Nat.ne_of_lt hb)), _, #[], 0, Heap.get?_push_size _ rfl, ⟨rfl, rfl, rfl⟩, rfl, rfl, List.nodup_nil⟩
theorem d_setT {X : Cx} {pins : List (Addr × Obj)} {σ : L2.St} {H : Hp} {s : Shared} {E : Value → Shared → Prop} {D b : Addr} {xs : List (List Key × Addr × Value)} {k : List Key} {u r : Value} {Q : Unit → Shared → Prop} (hu : X.A.units + 1 < cLine) (I : Inv X pins σ H s) (hD : H D = some (DsO (kwOf X) D xs)) (hk : ∀ q ∈ xs, TupP H q.2.1 (q.1.map kV)) (eb : TupP H b (k.map kV)) (hz : xs.length < sizeLine)
    (ry : RelV (.ref b) u) (rv : RelV (.bl true) r) (h : ∀ s', Inv X pins σ (upd H D (DsO (kwOf X) D (storedH xs k b (.bool true)))) s' → Q () s') : wpAny (model X.prog X.w) X.A (dictSet D u r) Q E s := by
  cases (show u = Value.ref b from ry)
  cases (show r = Value.bool true from rv)
  obtain ⟨z, hd, dd⟩ := ds_of I hD hk
  have hl : (storedH xs k b (.bool true)).length ≤ sizeLine := by have := storedH_length xs k b (.bool true); omega
  refine wpAny_dictSet_heap (hsz := z) (show (tupleKind (mixKind X.prog X.w)).room X.A from (by show X.A.units < cLine; omega)) (key_ofP I eb) dd fun h' dd' hs => h _ ?_
  obtain ⟨q, es, ep, hq, h2, h3, h4, _, h5⟩ := dd'
  exact d_write I (by rw [hD]; exact True.intro) hs ⟨q, hq⟩ (ds_ok ⟨hl, hd, q, es, ep, hq, h2, h3, h4, h5⟩)
section
variable {X : Cx} {tg e : Expr} {te : TE}
def iAny (K : KW) (te : TE) : TI := fun σ H R => te σ H fun v H1 => (∃ a xs, v = .ref a ∧ SqL K H1 a xs ∧ R (Itl K a) H1) ∨ (∃ a xs, v = .ref a ∧ SqT K H1 a xs ∧ R (Itt K a) H1) ∨ ∃ z, v = .str z ∧ R (Its z) H1
theorem pi_any (hl : PE X e te) : PI X tg e (iAny (kwOf X) te) := by
  refine ⟨fun pins s σ H R I h => ?_⟩
  refine thn (hl.run pins s σ H _ I h) fun v s1 ⟨x, H1, I1, r1, q1⟩ => ?_
  rcases q1 with ⟨a, xs, rfl, hq, q⟩ | ⟨a, xs, rfl, hq, q⟩ | ⟨z, rfl, q⟩
  · cases r1
    obtain ⟨its, rv, p, hz⟩ := I1.list hq
    refine wpAny_pyIter_list p.isList ?_
    refine ⟨s1.heap.objs.size, [s1.heap.objs.size], _, _, H1, rfl, I1.kept (t' := s1.toks) fun b o e => Heap.get?_push_of_some _ e, turn_list a _, ⟨_, Heap.get?_push_size _ rfl, rfl, rfl⟩, fun b hb => ?_, q⟩
    have e : b = s1.heap.objs.size := by simpa using hb
    subst e
    exact I1.fpOk (Nat.le_refl _) (I1.hok.fresh (Nat.le_refl _))
  · cases r1
    obtain ⟨its, rv, p, hz⟩ := I1.tuple hq
    refine wpAny_pyIter_tuple (show s1.heap.IsTuple a its.toArray from p) ?_
    refine ⟨s1.heap.objs.size, [s1.heap.objs.size], _, _, H1, rfl, I1.kept (t' := s1.toks) fun b o e => Heap.get?_push_of_some _ e, turn_tuple a _, ⟨_, Heap.get?_push_size _ rfl, rfl, rfl⟩, fun b hb => ?_, q⟩
    have e : b = s1.heap.objs.size := by simpa using hb
    subst e
    exact I1.fpOk (Nat.le_refl _) (I1.hok.fresh (Nat.le_refl _))
  · obtain ⟨t, rfl⟩ := r1
    cases ha : z.cps.all (· < 128)
    · exact wpAny_pyIter_wide ha (pi_one (tk := s1.toks) I1 _ (turn_str _ z t "str_iterator" (.inr rfl)) ⟨_, Heap.get?_push_size _ rfl, rfl, rfl⟩ q)
    · exact wpAny_pyIter_ascii ha (pi_one (tk := s1.toks) I1 _ (turn_str _ z t "str_ascii_iterator" (.inl rfl)) ⟨_, Heap.get?_push_size _ rfl, rfl, rfl⟩ q)
end
section
variable {X : Cx}
def tDcT (K : KW) (wi : TI) (g : TG) (tt : TT) (tk tv : TE) (vs : List Nat) : TE := fun σ H Q => wi σ H fun J H1 => ∀ D, H1 D = none → ∃ W : Nat → Nat → Hp → Prop, (∃ m, W 0 m (upd H1 D (DsO K D []))) ∧ ∀ i m H, W i m H →
  (J.stop i H ∧ Q (.ref D) H) ∨ (J.go i H ∧ ∃ Nx : Hp → Prop, (∀ H', Nx H' → ∃ m', m' < m ∧ W (i + 1) m' H') ∧ ∀ x H', J.yld i H x H' → g x (wipe σ vs) H' fun σ2 H2 => wipe σ2 vs = wipe σ vs ∧ tt σ2 H2 fun b H3 =>
    if b = true then tk σ2 H3 fun y H4 => tv σ2 H4 fun z H5 => ∃ xs k bk, y = .ref bk ∧ z = .bl true ∧ TupP H5 bk (k.map kV) ∧ H5 D = some (DsO K D xs) ∧ (∀ q ∈ xs, TupP H5 q.2.1 (q.1.map kV)) ∧ xs.length < sizeLine ∧ Nx (upd H5 D (DsO K D (storedH xs k bk (.bool true)))) else Nx H3)
theorem dcT_core {pins : List (Addr × Obj)} {s : Shared} {σ : L2.St} {H : Hp} {Q : VK} {kx vx tg iter : Expr} {ifs : List Expr} {scope : Scope} {own : List (Str × Nat)} {pos pos' : Pos} {wi : TI} {g : TG} {tt : TT} {tk tv : TE} {use : Option (Value → Sem Unit)} {Qf : Value → Shared → Prop}
    (hu : X.A.units + 1 < cLine) (hc : X.calm = true) (hN : X.N.Nodup) (I : Inv X pins σ H s) (hi : PI X tg iter wi) (ok : BlkOk X.N X.env.scope scope own)
    (hg : ∀ (s : Shared) (H : Hp) (C : Addr) (cl : List (Str × Addr)) (fp : List Addr), PG (X.blk s H scope (compEnvC scope cl C X.env) fp) tg g) (ht : ∀ (s : Shared) (H : Hp) (C : Addr) (cl : List (Str × Addr)) (fp : List Addr), PTs (X.blk s H scope (compEnvC scope cl C X.env) fp) ifs tt)
    (hk : ∀ (s : Shared) (H : Hp) (C : Addr) (cl : List (Str × Addr)) (fp : List Addr), PE (X.blk s H scope (compEnvC scope cl C X.env) fp) kx tk)
    (he : ∀ (s : Shared) (H : Hp) (C : Addr) (cl : List (Str × Addr)) (fp : List Addr), PE (X.blk s H scope (compEnvC scope cl C X.env) fp) vx tv) (hs : ∀ x, foldedSetIterable iter X.env x = pure x)
    (h : tDcT (kwOf X) wi g tt tk tv (own.map (·.2)) σ H Q)
    (hRR : ∀ D C s' m H', Inv X pins σ H' s' → Q (.ref D) H' → s'.heap.Ns C m → FpOk X pins H' C → compPost (model X.prog X.w) X.A X.xe use Qf (.ref D) C (.ok .next) s') :
    wpAny (model X.prog X.w) X.A (comprehension (.DictComp kx vx [⟨tg, iter, ifs, 0⟩] scope pos) scope X.env pos' newDict false (eval iter X.env) use) Qf X.xe s := by
  have hfree : ∀ y ∈ scope.names, y.2 = .free → ∃ c, X.env.cells.lookup y.1 = some c := fun y hy e => by
    rcases ok.free y hy e with k | k
    · exact I.ok.has _ (.inl k)
    · exact I.ok.has _ (.inr k)
  refine wpAny_comprehension_free (use := use) rfl hs (closure_ok hfree) ok.kind (fun y hy e => by rw [ok.uniq y hy, e])
    (thn (hi.run pins s σ H _ I h) fun xv s1 hx => thn hx fun itv s2 h2 => ?_)
  obtain ⟨it, fp, tn, J, H2, e, I2, T, st2, f2, q⟩ := h2
  subst e
  refine wpAny_newObj_type (newEnv_comp ?_)
  generalize hD : s2.heap.objs.size = D
  have hDn : H2 D = none := I2.hok.fresh (Nat.le_of_eq hD)
  obtain ⟨W, ⟨m0, w0⟩, turn⟩ := q D hDn
  -- the new list
  generalize hs3 : ({ s2 with heap := s2.heap.push { cls := .type "dict", data := .dict #[] } } : Shared) = s3
  have I3 : Inv X pins σ (upd H2 D (DsO (kwOf X) D [])) s3 := by
    rw [← hs3]
    refine I2.laid (t' := s2.toks) (fun b o e => Heap.get?_push_of_some _ e) (Nat.le_of_eq hD) ?_
    rw [← hD]
    exact ds_empty s2.heap I2.big
  have h3 : s3.heap = s2.heap.push { cls := .type "dict", data := .dict #[] } := by rw [← hs3]
  have sz : ∀ b ∈ fp, b < s2.heap.objs.size := fun b hb => by
    obtain ⟨o, e, _⟩ := T.obj _ _ st2 b hb
    exact Heap.lt_size e
  have f3 : ∀ b ∈ fp, FpOk X pins (upd H2 D (DsO (kwOf X) D [])) b ∧ b < s3.heap.objs.size := fun b hb => by
    have hlt := sz b hb
    refine ⟨⟨?_, (f2 b hb).2⟩, by rw [h3, Heap.size_push]; exact Nat.lt_succ_of_lt hlt⟩
    rw [upd_ne (by rw [← hD]; exact Nat.ne_of_lt hlt)]
    exact (f2 b hb).1
  have st3 : tn 0 s3.heap := T.keep _ _ _ st2 fun b _ o e => by rw [h3]; exact Heap.get?_push_of_some _ e
  have I4 := block_start I3 ok hN f3
  have pg := hg s3 (upd H2 D (DsO (kwOf X) D [])) s3.heap.objs.size (cellsFrom (s3.heap.objs.size + 1) scope.names (cloFrom X.env.cells scope.names [])) fp
  have pt := ht s3 (upd H2 D (DsO (kwOf X) D [])) s3.heap.objs.size (cellsFrom (s3.heap.objs.size + 1) scope.names (cloFrom X.env.cells scope.names [])) fp
  have pk := hk s3 (upd H2 D (DsO (kwOf X) D [])) s3.heap.objs.size (cellsFrom (s3.heap.objs.size + 1) scope.names (cloFrom X.env.cells scope.names [])) fp
  have pe := he s3 (upd H2 D (DsO (kwOf X) D [])) s3.heap.objs.size (cellsFrom (s3.heap.objs.size + 1) scope.names (cloFrom X.env.cells scope.names [])) fp
  show codeAny _ _ (.compStart (.DictComp kx vx [⟨tg, iter, ifs, 0⟩] scope pos) 0 (.ref it) (.ref D) (compEnvC scope (cellsFrom (s3.heap.objs.size + 1) scope.names (cloFrom X.env.cells scope.names [])) s3.heap.objs.size X.env)) (compPost (model X.prog X.w) X.A X.xe use Qf (.ref D) s3.heap.objs.size) { s3 with heap := pushCells (s3.heap.push { cls := .type "dict", data := .dict #[] }) scope.names }
  have nfp : ∀ b ∈ fp, (upd H2 D (DsO (kwOf X) D [])) b = none := fun b hb => (f3 b hb).1.1
  generalize hce : compEnvC scope (cellsFrom (s3.heap.objs.size + 1) scope.names (cloFrom X.env.cells scope.names [])) s3.heap.objs.size X.env = ce at I4 pg pt pk pe ⊢
  have cL : ce.locals = s3.heap.objs.size := by subst hce; rfl
  generalize hH3 : upd H2 D (DsO (kwOf X) D []) = H3 at I3 I4 pg pt pk pe w0 nfp f3
  generalize hs4 : ({ s3 with heap := pushCells (s3.heap.push { cls := .type "dict", data := .dict #[] }) scope.names } : Shared) = s4 at I4 ⊢
  have st4 : tn 0 s4.heap := T.keep _ _ _ st3 fun b _ o e => by rw [← hs4]; exact pushCells_keeps _ _ _ _ (Heap.get?_push_of_some _ e)
  have stat : ∀ {σ' : L2.St} {H' : Hp} {s' : Shared}, Inv (X.blk s3 H3 scope ce fp) [] σ' H' s' → (∀ b ∈ fp, H' b = none) → ∀ b ∈ fp, FpOk (X.blk s3 H3 scope ce fp) [] H' b := fun {σ' H' s'} I' hn b hb =>
    ⟨hn b hb, (I'.ok.exf b hb).1, I'.ok.exfs b hb, .inl hb, fun x c e => (I'.ok.exf b hb).2 x c e, fun p hp => absurd (show p ∈ ([] : List (Addr × Obj)) ++ [] from hp) (by simp)⟩
  have loop : codeAny (model X.prog X.w) X.A (.compLoop (.DictComp kx vx [⟨tg, iter, ifs, 0⟩] scope pos) 0 (.ref it) (.ref D) ce) (compPost (model X.prog X.w) X.A X.xe use Qf (.ref D) s3.heap.objs.size) s4 := by
    refine compLoop_anyD (fun n s' => ∃ i H', Inv (X.blk s3 H3 scope ce fp) [] (wipe σ (own.map (·.2))) H' s' ∧ tn i s'.heap ∧ (∀ b ∈ fp, H' b = none) ∧ W i n H') ?_ m0 ⟨0, H3, I4, st4, nfp, w0⟩
    rintro n s5 ⟨i, H5, I5, st5, n5, w5⟩
    rcases turn i n H5 w5 with ⟨stop, qq⟩ | ⟨go, Nx, hNx, step⟩
    · have td := T.done (X.blk s3 H3 scope ce fp) rfl rfl rfl hc i [] s5 _ H5 (fun _ _ => False) I5 (stat I5 n5) st5 stop
      refine thnF td fun r s6 ⟨hr, I6⟩ => ?_
      subst hr
      -- back in the def's context
      have I7 : Inv X pins σ H5 s6 := I3.call' (ch := fp) I6.os I6.base I6.hok I6.bare fun b hb => ⟨(f3 b hb).1.2.2.2.1, (f3 b hb).1.2.1, (f3 b hb).1.2.2.2.2.1, (f3 b hb).1.2.2.2.2.2⟩
      have nC : H5 s3.heap.objs.size = none := by
        have z : H5 ce.locals = none := I6.free
        rw [cL] at z
        exact z
      obtain ⟨m, hn, _⟩ := I6.loc
      have hn : s6.heap.Ns ce.locals m := hn
      rw [cL] at hn
      exact hRR D s3.heap.objs.size s6 m H5 I7 qq hn (I3.fpOk (Nat.le_refl _) nC)
    · have ti := T.item (X.blk s3 H3 scope ce fp) rfl rfl rfl hc i [] s5 _ H5 (fun _ _ => False) I5 (stat I5 n5) st5 go
      refine thnF ti fun r s6 ⟨u, hr, h6⟩ => ?_
      subst hr
      refine thnF h6 fun _ s7 ⟨x, H7, I7, r7, y7, st7, n7⟩ => ?_
      have I7' := I7.pinned (stat I7 n7) (T.obj _ _ st7)
      refine thnF (pg.run _ s7 _ H7 x u _ I7' r7 (step x H7 y7)) fun _ s8 ⟨σ8, H8, I8, hw8, q8⟩ => ?_
      refine thnF (pt.run _ s8 σ8 H8 _ I8 q8) fun b s9 ⟨H9, I9, q9⟩ => ?_
      -- the turn's end
      have fin : ∀ {s' : Shared} {H' : Hp}, Inv (X.blk s3 H3 scope ce fp) ([] ++ pinsAt fp s7.heap) σ8 H' s' → Nx H' → ∃ m, m < n ∧ ∃ i H', Inv (X.blk s3 H3 scope ce fp) [] (wipe σ (own.map (·.2))) H' s' ∧ tn i s'.heap ∧ (∀ b ∈ fp, H' b = none) ∧ W i m H' := fun {s' H'} I' nx => by
        obtain ⟨m', hm, w'⟩ := hNx H' nx
        have pin' : ∀ b ∈ fp, ∀ o, s7.heap.get? b = some o → s'.heap.get? b = some o ∧ H' b = none := fun b hb o e =>
          let z := I'.pin (b, o) (List.mem_append_right _ (List.mem_append_right _ (mem_pinsAt hb e)))
          ⟨z.1, z.2.1⟩
        have hl : (wipe σ (own.map (·.2))).length = σ8.length := by rw [← hw8, wipe_length]
        refine ⟨m', hm, i + 1, H', (I'.unpinned (pins := [])).weak hl (fun j v e => ?_), T.keep _ _ _ st7 fun b hb o e => (pin' b hb o e).1, fun b hb => ?_, w'⟩
        · rw [← hw8] at e
          exact (wipe_some e).1
        · obtain ⟨o, e, _⟩ := T.obj _ _ st7 b hb
          exact (pin' b hb o e).2
      cases b with
      | false =>
        simp only [Bool.false_eq_true, if_false] at q9 ⊢
        exact fin I9 q9
      | true =>
        simp only [if_true] at q9 ⊢
        refine thnF (pk.run _ s9 σ8 H9 _ I9 q9) fun z s10 ⟨yk, H10, I10, r10, q10⟩ => ?_
        refine thnF (pe.run _ s10 σ8 H10 _ I10 q10) fun z2 s11 ⟨yv, H11, I11, r11, xs11, k, bk, ek, ev11, hb11, hD11, hk11, hz11, nx⟩ => ?_
        subst ek ev11
        exact d_setT (X := X.blk s3 H3 scope ce fp) hu I11 hD11 hk11 hb11 hz11 r10 r11 fun s12 I12 => fin I12 nx
  exact codeAny_compStart_dict loop (T.self X.A 0 _ _ _ st4 loop)
theorem pe_dcT {kx vx tg iter : Expr} {ifs : List Expr} {scope : Scope} {own : List (Str × Nat)} {pos : Pos} {wi : TI} {g : TG} {tt : TT} {tk tv : TE} (hu : X.A.units + 1 < cLine) (hc : X.calm = true) (hN : X.N.Nodup) (hi : PI X tg iter wi) (ok : BlkOk X.N X.env.scope scope own)
    (hg : ∀ (s : Shared) (H : Hp) (C : Addr) (cl : List (Str × Addr)) (fp : List Addr), PG (X.blk s H scope (compEnvC scope cl C X.env) fp) tg g) (ht : ∀ (s : Shared) (H : Hp) (C : Addr) (cl : List (Str × Addr)) (fp : List Addr), PTs (X.blk s H scope (compEnvC scope cl C X.env) fp) ifs tt)
    (hk : ∀ (s : Shared) (H : Hp) (C : Addr) (cl : List (Str × Addr)) (fp : List Addr), PE (X.blk s H scope (compEnvC scope cl C X.env) fp) kx tk)
    (he : ∀ (s : Shared) (H : Hp) (C : Addr) (cl : List (Str × Addr)) (fp : List Addr), PE (X.blk s H scope (compEnvC scope cl C X.env) fp) vx tv) (hs : ∀ x, foldedSetIterable iter X.env x = pure x := by intro _; rfl) :
    PE X (.DictComp kx vx [⟨tg, iter, ifs, 0⟩] scope pos) (tDcT (kwOf X) wi g tt tk tv (own.map (·.2))) := by
  refine ⟨fun pins s σ H Q I h => ?_⟩
  rw [arm_eval_DictComp]
  refine dcT_core hu hc hN I hi ok hg ht hk he hs h fun D C s' m H' I' q hn f => ⟨m, hn, fun h'' sb => ?_⟩
  obtain ⟨f0, f1, f2, f3, f4, f5⟩ := f
  exact ⟨.ref D, H', I'.turned (t' := s'.toks) (fun b o hb e => (sb.2 b hb).trans e) f0 f1 f3 f4 f5, rfl, q⟩
theorem ps_setDcT {i : Nat} {y : Str} {py : Pos} {kx vx tg iter : Expr} {ifs : List Expr} {scope : Scope} {own : List (Str × Nat)} {pos spos : Pos} {wi : TI} {g : TG} {tt : TT} {tk tv : TE} (hu : X.A.units + 1 < cLine) (hc : X.calm = true) (hN : X.N.Nodup) (hy : X.N[i]? = some y) (hyl : X.env.scope.names.lookup y = some .local)
    (hsw : swapsWith (.DictComp kx vx [⟨tg, iter, ifs, 0⟩] scope pos) (some (.Name y py)) spos.line X.env = pure true) (hi : PI X tg iter wi) (ok : BlkOk X.N X.env.scope scope own)
    (hg : ∀ (s : Shared) (H : Hp) (C : Addr) (cl : List (Str × Addr)) (fp : List Addr), PG (X.blk s H scope (compEnvC scope cl C X.env) fp) tg g) (ht : ∀ (s : Shared) (H : Hp) (C : Addr) (cl : List (Str × Addr)) (fp : List Addr), PTs (X.blk s H scope (compEnvC scope cl C X.env) fp) ifs tt)
    (hk : ∀ (s : Shared) (H : Hp) (C : Addr) (cl : List (Str × Addr)) (fp : List Addr), PE (X.blk s H scope (compEnvC scope cl C X.env) fp) kx tk)
    (he : ∀ (s : Shared) (H : Hp) (C : Addr) (cl : List (Str × Addr)) (fp : List Addr), PE (X.blk s H scope (compEnvC scope cl C X.env) fp) vx tv) (hs : ∀ x, foldedSetIterable iter X.env x = pure x) :
    PS X (.Assign [.Name y py] (.DictComp kx vx [⟨tg, iter, ifs, 0⟩] scope pos) spos) (tAsg (tDcT (kwOf X) wi g tt tk tv (own.map (·.2))) (gName i)) := by
  refine ⟨fun pins s σ H D I h => ?_⟩
  rw [exec_Assign_Name_used _ _ _ _ hsw]
  refine wpAny_bind (wpAny_standAt (wpAny_bind ?_))
  show wpAny _ X.A (do let _ ← comprehension (.DictComp kx vx [⟨tg, iter, ifs, 0⟩] scope pos) scope X.env (firstIterPos [⟨tg, iter, ifs, 0⟩] pos) newDict false (eval iter X.env) (some (assign (.Name y py) X.env))) _ _ s
  have h : tDcT (kwOf X) wi g tt tk tv (own.map (·.2)) σ H (fun x H1 => gName i x σ H1 D.nx) := h
  refine wpAny_bind (thn (dcT_core (Qf := fun _ s' => SP X pins D .next s') hu hc hN I hi ok hg ht hk he hs h fun L C s' m H' I' q hn f => ?_) fun _ s' hq => wpAny_pure (wpAny_pure hq))
  show wpAny _ _ (assign (.Name y py) X.env (.ref L)) _ _ _
  refine wpAny_assign_Name (store_ok2 (v := V.ref L) I' hN hy (.inl hyl) rfl (fun s2 I2 ⟨a, sb, ha⟩ => ?_) (.inr hyl))
  obtain ⟨f0, f1, f2, f3, f4, f5⟩ := f
  have haC : C ≠ a := by
    rcases ha with z | z
    · rw [z]; exact f1
    · exact fun e => f4 y a z e.symm
  refine ⟨m, hn.sameBut sb haC, fun h3 sb3 => ?_⟩
  exact ⟨_, H', I2.turned (t' := s2.toks) (fun b o hb e => (sb3.2 b hb).trans e) f0 f1 f3 f4 f5, q⟩
end
end Tk
/-! E2: more operations as they are written: {x: True for x in e}, len(set(e)), dict(e), dict(zip(a, b, strict=True)), t.index(x). -/
namespace Tk
open PySem PySem.Spec PyProof.Rows L2
abbrev MonoE (t : TE) : Prop := ∀ σ H Q Q', (∀ v H', Q v H' → Q' v H') → t σ H Q → t σ H Q'
theorem tupKeys_reps {K : KW} {H : Hp} {O : Addr → Prop} : ∀ {ds : List D} {vs : List V} {ks : List (List Key)}, Reps K H O vs ds → tupKeys ds = some ks → ds = ks.map tD ∧ ∀ (i : Nat) v, vs[i]? = some v → ∃ k b, ks[i]? = some k ∧ v = .ref b ∧ TupP H b (k.map kV) ∧ ∀ x, Sum.inr x ∈ k → x.length ≤ sizeLine
  | [], _, ks, r, e => by cases r; cases e; exact ⟨rfl, fun i v e => by simp at e⟩
  | d :: ds, _, ks, r, e => by
    cases r with
    | @cons v vs _ _ r1 r2 =>
      simp only [tupKeys, Option.bind_eq_some_iff, Option.map_eq_some_iff] at e
      obtain ⟨k, e1, ks', e2, rfl⟩ := e
      obtain ⟨ih1, ih2⟩ := tupKeys_reps r2 e2
      have hd : ∀ {es : List D} {k : List Key}, keysOf es = some k → es = k.map kD := by
        intro es
        induction es with
        | nil => intro k e; cases e; rfl
        | cons a es ih =>
          intro k e
          simp only [keysOf, Option.bind_eq_some_iff, Option.map_eq_some_iff] at e
          obtain ⟨κ, f1, k', f2, rfl⟩ := e
          rw [ih f2, List.map_cons]
          congr 1
          cases a <;> simp [keyOf] at f1 <;> subst f1 <;> rfl
      have hs : ∀ {es : List D} {us : List V} {k : List Key}, Reps K H O us es → keysOf es = some k → ∀ x, Sum.inr x ∈ k → x.length ≤ sizeLine := by
        intro es
        induction es with
        | nil => intro us k _ e x hx; cases e; simp at hx
        | cons a es ih =>
          intro us k r e x hx
          simp only [keysOf, Option.bind_eq_some_iff, Option.map_eq_some_iff] at e
          obtain ⟨κ, f1, k', f2, rfl⟩ := e
          cases r with
          | cons q1 q2 =>
            rcases List.mem_cons.mp hx with hx | hx
            · subst hx
              cases a <;> simp [keyOf] at f1
              subst f1
              cases q1 with
              | str _ hl => exact hl
            · exact ih q2 f2 x hx
      cases d with
      | tuple es =>
        cases r1 with
        | @tup b us _ t1 r1 =>
          have e3 := keysOf_reps r1 e1
          subst e3
          refine ⟨by rw [ih1, hd e1]; rfl, fun i v e => ?_⟩
          cases i with
          | zero =>
            simp at e; subst e
            exact ⟨k, b, rfl, rfl, t1, hs r1 e1⟩
          | succ i => exact ih2 i v (by simpa using e)
      | _ => cases e1
theorem put_fst (xs : List (List Key × Addr × Value)) (k : List Key) (b : Addr) (v : Value) : (storedH xs k b v).map (·.1) = @Zs.ddStep (List Key) instBEqOfDecidableEq (xs.map (·.1)) k := by
  unfold storedH Zs.ddStep
  have e : (atKey xs k).isSome = ((xs.map (·.1)).any fun y => @BEq.beq (List Key) instBEqOfDecidableEq y k) := by
    unfold atKey
    rw [Option.isSome_map, List.isSome_find?, List.any_map]
    congr 1
  rw [e]
  split
  · rw [List.map_map]
    apply List.map_congr_left
    intro p _
    simp only [Function.comp, putAt]
    split <;> rfl
  · simp
section
variable {X : Cx} {sc : Scope}
def tDset (K : KW) (i : Nat) (ta : TE) : TE := fun σ H Q => i < σ.length ∧ ta σ H fun v H1 => R1 K .dset v H1 Q
theorem tup_inv {K : KW} {Γ : Gh} {H : Hp} {O : Addr → Prop} {v : V} {ds : List D} (h : RRep K Γ H O v (.tuple ds)) : ∃ a vs, v = .ref a ∧ TupP H a vs ∧ Reps K H O vs ds := by
  cases (show Rep K H O v (.tuple ds) from h) with
  | tup t r => exact ⟨_, _, rfl, t, r⟩
theorem dset_dc {i : Nat} {ta : TE} {σ : L2.St} {H : Hp} {Q : VK} (ma : MonoE ta) (h : tDset (kwOf X) i ta σ H Q) : tDcT (kwOf X) (iAny (kwOf X) ta) (gName i) tYes (tVar i) (tC (.bl true)) [i] σ H Q := by
  obtain ⟨hlen, h⟩ := h
  refine ma σ H _ _ (fun v H1 h1 => ?_) h
  obtain ⟨Γ, O, d, r, ho, hr, hsem, q⟩ := h1
  cases d with
  | list ds =>
    obtain ⟨a, vs, rfl, t1, r1⟩ := hr
    simp only [sem1, Option.bind_eq_some_iff] at hsem
    obtain ⟨ks, e1, e2⟩ := hsem
    split at e2
    · rename_i hsz
      cases e2
      obtain ⟨eds, hkeys⟩ := tupKeys_reps r1 e1
      have hvl : vs.length = ks.length := by rw [r1.length, eds, List.length_map]
      refine .inl ⟨a, vs, rfl, t1.sq, fun D hD => ?_⟩
      have seq : ∀ {H' : Hp}, Same H1 H' → SqL (kwOf X) H' a vs := fun s => s.seq t1.sq
      refine ⟨fun j m H' => m = vs.length - j ∧ j ≤ vs.length ∧ Same H1 H' ∧ ∃ xs, H' D = some (DsO (kwOf X) D xs) ∧ xs.map (·.1) = ddK (ks.take j) ∧ ∀ q ∈ xs, TupP H1 q.2.1 (q.1.map kV) ∧ ∀ x, Sum.inr x ∈ q.1 → x.length ≤ sizeLine, ⟨vs.length, rfl, Nat.zero_le _, same_upd hD, [], upd_same, rfl, by simp⟩, ?_⟩
      have tp : ∀ {H' : Hp} {b : Addr} {ys : List V}, Same H1 H' → TupP H1 b ys → TupP H' b ys := fun s ⟨o, e, hd⟩ => ⟨o, s _ _ e, hd⟩
      rintro j m H' ⟨rfl, hj, s1, xs, eD, ek, hsh⟩
      by_cases hlt : j < vs.length
      · refine .inr ⟨⟨vs, vs[j], seq s1, by simp [hlt]⟩, _, fun H'' h => h, ?_⟩
        rintro y H'' ⟨rfl, hy⟩
        have ey := hy vs (seq s1)
        obtain ⟨k, b, f1, rfl, f3, f4⟩ := hkeys j y ey
        refine ⟨?_, ?_⟩
        · show wipe ((wipe σ [i]).set i (some (.ref b))) [i] = wipe σ [i]
          simp [wipe]
        · refine ⟨_, ?_, xs, k, b, rfl, rfl, tp s1 f3, eD, fun q hq => tp s1 (hsh q hq).1, ?_, vs.length - (j + 1), by omega, rfl, by omega, ?_, _, upd_same, ?_, ?_⟩
          · show ((wipe σ [i]).set i (some (.ref b)))[i]? = _
            rw [List.getElem?_set_self (by rw [wipe_length]; exact hlen)]
          · have h1 := congrArg List.length ek
            rw [List.length_map] at h1
            have h2 := @Zs.dd_len (List Key) instBEqOfDecidableEq (ks.take j) []
            rw [List.length_take] at h2
            unfold ddK Zs.dd at h1
            simp only [List.length_nil] at h2
            omega
          · intro c u e
            have : c ≠ D := fun z => by rw [z, hD] at e; cases e
            rw [upd_ne this]
            exact s1 c u e
          · rw [put_fst, ek, ← @Zs.dd_snoc (List Key) instBEqOfDecidableEq]
            show ddK _ = ddK _
            congr 1
            obtain ⟨hk1, hk2⟩ := List.getElem?_eq_some_iff.mp f1
            rw [← hk2, List.take_append_getElem]
          · intro q hq
            rcases mem_storedH_key hq with ⟨y, hy, e1, e2⟩ | ⟨e1, e2⟩
            · rw [e1, e2]; exact hsh y hy
            · rw [e1, e2]; exact ⟨f3, f4⟩
      · have e : j = vs.length := by omega
        subst e
        refine .inl ⟨⟨vs, seq s1, Nat.le_refl _⟩, ?_⟩
        rw [hvl, List.take_length] at ek
        refine q _ _ s1 ?_
        have nO : ¬ O D := fun z => ho D z hD
        have := Rep.dst (K := (kwOf X)) (O := O) eD nO fun q hq => ⟨tp s1 (hsh q hq).1, (hsh q hq).2⟩
        rw [ek] at this
        exact this
    · cases e2
  | tuple ds =>
    obtain ⟨a, vs, rfl, t1, r1⟩ := tup_inv hr
    simp only [sem1, Option.bind_eq_some_iff] at hsem
    obtain ⟨ks, e1, e2⟩ := hsem
    split at e2
    · rename_i hsz
      cases e2
      obtain ⟨eds, hkeys⟩ := tupKeys_reps r1 e1
      have hvl : vs.length = ks.length := by rw [r1.length, eds, List.length_map]
      refine .inr (.inl ⟨a, vs, rfl, t1.sq, fun D hD => ?_⟩)
      have seq : ∀ {H' : Hp}, Same H1 H' → SqT (kwOf X) H' a vs := fun s => (show TupP _ a vs from (let ⟨o, e, hd⟩ := t1; ⟨o, s _ _ e, hd⟩)).sq
      refine ⟨fun j m H' => m = vs.length - j ∧ j ≤ vs.length ∧ Same H1 H' ∧ ∃ xs, H' D = some (DsO (kwOf X) D xs) ∧ xs.map (·.1) = ddK (ks.take j) ∧ ∀ q ∈ xs, TupP H1 q.2.1 (q.1.map kV) ∧ ∀ x, Sum.inr x ∈ q.1 → x.length ≤ sizeLine, ⟨vs.length, rfl, Nat.zero_le _, same_upd hD, [], upd_same, rfl, by simp⟩, ?_⟩
      have tp : ∀ {H' : Hp} {b : Addr} {ys : List V}, Same H1 H' → TupP H1 b ys → TupP H' b ys := fun s ⟨o, e, hd⟩ => ⟨o, s _ _ e, hd⟩
      rintro j m H' ⟨rfl, hj, s1, xs, eD, ek, hsh⟩
      by_cases hlt : j < vs.length
      · refine .inr ⟨⟨vs, vs[j], seq s1, by simp [hlt]⟩, _, fun H'' h => h, ?_⟩
        rintro y H'' ⟨rfl, hy⟩
        have ey := hy vs (seq s1)
        obtain ⟨k, b, f1, rfl, f3, f4⟩ := hkeys j y ey
        refine ⟨?_, ?_⟩
        · show wipe ((wipe σ [i]).set i (some (.ref b))) [i] = wipe σ [i]
          simp [wipe]
        · refine ⟨_, ?_, xs, k, b, rfl, rfl, tp s1 f3, eD, fun q hq => tp s1 (hsh q hq).1, ?_, vs.length - (j + 1), by omega, rfl, by omega, ?_, _, upd_same, ?_, ?_⟩
          · show ((wipe σ [i]).set i (some (.ref b)))[i]? = _
            rw [List.getElem?_set_self (by rw [wipe_length]; exact hlen)]
          · have h1 := congrArg List.length ek
            rw [List.length_map] at h1
            have h2 := @Zs.dd_len (List Key) instBEqOfDecidableEq (ks.take j) []
            rw [List.length_take] at h2
            unfold ddK Zs.dd at h1
            simp only [List.length_nil] at h2
            omega
          · intro c u e
            have : c ≠ D := fun z => by rw [z, hD] at e; cases e
            rw [upd_ne this]
            exact s1 c u e
          · rw [put_fst, ek, ← @Zs.dd_snoc (List Key) instBEqOfDecidableEq]
            show ddK _ = ddK _
            congr 1
            obtain ⟨hk1, hk2⟩ := List.getElem?_eq_some_iff.mp f1
            rw [← hk2, List.take_append_getElem]
          · intro q hq
            rcases mem_storedH_key hq with ⟨y, hy, e1, e2⟩ | ⟨e1, e2⟩
            · rw [e1, e2]; exact hsh y hy
            · rw [e1, e2]; exact ⟨f3, f4⟩
      · have e : j = vs.length := by omega
        subst e
        refine .inl ⟨⟨vs, seq s1, Nat.le_refl _⟩, ?_⟩
        rw [hvl, List.take_length] at ek
        refine q _ _ s1 ?_
        have nO : ¬ O D := fun z => ho D z hD
        have := Rep.dst (K := (kwOf X)) (O := O) eD nO fun q hq => ⟨tp s1 (hsh q hq).1, (hsh q hq).2⟩
        rw [ek] at this
        exact this
    · cases e2
  | _ => simp [sem1] at hsem
theorem pe_dset {x : Str} {i : Nat} {iter : Expr} {scope : Scope} {pos p1 p2 p3 : Pos} {ck : Nat} {ta : TE} (hu : X.A.units + 1 < cLine) (hc : X.calm = true) (hN : X.N.Nodup) (ha : PE X iter ta) (ma : MonoE ta) (ok : BlkOk X.N X.env.scope scope [(x, i)]) (hi : X.N[i]? = some x)
    (hg : ∀ (s : Shared) (H : Hp) (C : Addr) (cl : List (Str × Addr)) (fp : List Addr), PG (X.blk s H scope (compEnvC scope cl C X.env) fp) (.Name x p3) (gName i))
    (hv : ∀ (s : Shared) (H : Hp) (C : Addr) (cl : List (Str × Addr)) (fp : List Addr), PE (X.blk s H scope (compEnvC scope cl C X.env) fp) (.Name x p1) (tVar i))
    (hs : ∀ x, foldedSetIterable iter X.env x = pure x) :
    PE X (.DictComp (.Name x p1) (.Constant (.bool true) ck p2) [⟨.Name x p3, iter, [], 0⟩] scope pos) (tDset (kwOf X) i ta) := by
  have base := pe_dcT (pos := pos) (tv := tC (.bl true)) (vx := .Constant (.bool true) ck p2) hu hc hN (pi_any (tg := .Name x p3) ha) ok hg (fun s H C cl fp => pts_nil) hv (fun s H C cl fp => pe_bl) hs
  exact ⟨fun pins s σ H Q I h => base.run pins s σ H Q I (dset_dc ma h)⟩
theorem ps_dset {j : Nat} {y : Str} {py spos : Pos} {x : Str} {i : Nat} {iter : Expr} {scope : Scope} {pos p1 p2 p3 : Pos} {ck : Nat} {ta : TE} (hu : X.A.units + 1 < cLine) (hc : X.calm = true) (hN : X.N.Nodup) (ha : PE X iter ta) (ma : MonoE ta) (ok : BlkOk X.N X.env.scope scope [(x, i)]) (hi : X.N[i]? = some x)
    (hg : ∀ (s : Shared) (H : Hp) (C : Addr) (cl : List (Str × Addr)) (fp : List Addr), PG (X.blk s H scope (compEnvC scope cl C X.env) fp) (.Name x p3) (gName i))
    (hv : ∀ (s : Shared) (H : Hp) (C : Addr) (cl : List (Str × Addr)) (fp : List Addr), PE (X.blk s H scope (compEnvC scope cl C X.env) fp) (.Name x p1) (tVar i))
    (hs : ∀ x, foldedSetIterable iter X.env x = pure x) (hy : X.N[j]? = some y) (hyl : X.env.scope.names.lookup y = some .local)
    (hsw : swapsWith (.DictComp (.Name x p1) (.Constant (.bool true) ck p2) [⟨.Name x p3, iter, [], 0⟩] scope pos) (some (.Name y py)) spos.line X.env = pure true) :
    PS X (.Assign [.Name y py] (.DictComp (.Name x p1) (.Constant (.bool true) ck p2) [⟨.Name x p3, iter, [], 0⟩] scope pos) spos) (tAsg (tDset (kwOf X) i ta) (gName j)) := by
  have base := ps_setDcT (i := j) (py := py) (pos := pos) (spos := spos) (tv := tC (.bl true)) (vx := .Constant (.bool true) ck p2) hu hc hN hy hyl hsw (pi_any (tg := .Name x p3) ha) ok hg (fun s H C cl fp => pts_nil) hv (fun s H C cl fp => pe_bl) hs
  exact ⟨fun pins s σ H D I h => base.run pins s σ H D I (dset_dc ma h)⟩
theorem pe_setlen {a : Expr} {ta : TE} {p p2 q pos : Pos} (hc : X.calm = true) (hg : Gl X "len") (hm : X.mg "len" = none) (hg2 : Gl X "set") (hm2 : X.mg "set" = none) (ha : PE X a ta) (na : starEach [a] X.env = (false, eval a X.env) :: starEach [] X.env) :
    PE X (.Call (.Name "len" p) [.Call (.Name "set" p2) [a] [] q] [] pos) (tUn (R1 (kwOf X) .setlen) ta) := by
  refine ⟨fun pins s σ H Q I h => ?_⟩
  refine Call_ (ld_blt I hg hm boot_len ?_)
  refine PyProof.Rows.callWith_builtin1 (PyProof.Rows.args_cons ?_ rfl) rfl rfl
  refine Call_ (ld_blt I hg2 hm2 boot_set ?_)
  refine PyProof.Rows.callWith_type1 (PyProof.Rows.args_cons (thn (ha.run pins s σ H _ I h) fun v s1 ⟨x, H1, I1, r1, q1⟩ => PyProof.Rows.args_nil ?_) na) na rfl
  obtain ⟨Γ, O, d, r, ho, hr, hsem, q⟩ := q1
  have fin : ∀ (ys : List Str) (h' : Heap) (tk : Nat), r = .int ((Zs.dd ys).length : Nat) → ys.length ≤ 1000 → h'.SetOf (PySem.strKind X.prog X.w) s1.heap.objs.size (fun k' => (Zs.dd ys).any (· == k')) (Zs.dd ys).length →
      (∀ b o, b < s1.heap.objs.size → s1.heap.get? b = some o → h'.get? b = some o) →
      wpAny (model X.prog X.w) X.A (spliced (backTo pos (starEach [] X.env))) (fun vs s₂ => wpAny (model X.prog X.w) X.A (call (.builtin "len") (Value.ref s1.heap.objs.size :: vs)) (EP X pins σ Q) X.xe s₂) X.xe { s1 with heap := h', toks := tk } := fun ys h' tk er hl hS hk => by
    refine PyProof.Rows.args_nil ?_
    obtain ⟨o, es, ep, t, ho, hex, hd, _, _, _, hf, hn⟩ := hS
    have I2 : Inv X pins σ H1 { s1 with heap := h', toks := tk } := I1.kept fun b o e => hk b o (Heap.lt_size e) e
    have hle : (Zs.dd ys).length ≤ 1000 := by
      have := Zs.dd_len ys []
      unfold Zs.dd
      simp only [List.length_nil] at this
      omega
    refine call_len_set ho hex hd hf (by rw [hn] <;> omega) ⟨.int _, H1, I2.tok _, ⟨_, by rw [hn]⟩, ?_⟩
    refine q _ _ (Same.refl _) ?_
    rw [er]
    exact .int _
  have strsQ : ∀ {vs : List V} {ds : List D} {ys : List Str} {its : List Value}, Reps (kwOf X) H1 O vs ds → strsD ds = some ys → Vals vs its → StrsAre its ys := fun r1 e rv => by
    have e2 := r1.strs e
    subst e2
    exact strsAre_of rv
  cases d with
  | list ds =>
    obtain ⟨a, vs, rfl, t1, rs⟩ := hr
    cases r1
    simp only [sem1, Option.bind_eq_some_iff] at hsem
    obtain ⟨ys, e1, e2⟩ := hsem
    split at e2
    · rename_i hl
      cases e2
      obtain ⟨its, rv, pl, hz⟩ := I1.list t1.sq
      exact Zs.setL (I1.ok.hd hc) pl.isList (by simpa using strsQ rs e1 rv) (by unfold scanBound; omega) fun h' tk hS hk => fin ys h' tk rfl hl hS hk
    · cases e2
  | tuple ds =>
    cases hr with
    | @tup a vs _ t1 rs =>
    cases r1
    simp only [sem1, Option.bind_eq_some_iff] at hsem
    obtain ⟨ys, e1, e2⟩ := hsem
    split at e2
    · rename_i hl
      cases e2
      obtain ⟨its, rv, pl, hz⟩ := I1.tuple t1.sq
      exact Zs.setT (I1.ok.hd hc) (show s1.heap.IsTuple a its.toArray from pl) (by simpa using strsQ rs e1 rv) (by unfold scanBound; omega) fun h' tk hS hk => fin ys h' tk rfl hl hS hk
    · cases e2
  | _ => simp [sem1] at hsem
theorem mergeK_nodup : ∀ (kvs acc : List (Key × V)), ((acc ++ kvs).map (·.1)).Nodup → mergeK acc kvs = acc ++ kvs
  | [], acc, _ => by simp [mergeK]
  | p :: kvs, acc, h => by
    have hn : valV acc p.1 = none := by
      cases e : valV acc p.1 with
      | none => rfl
      | some v =>
        exfalso
        have : (valV acc p.1).isSome = true := by rw [e]; rfl
        rw [← valV_any, List.any_eq_true] at this
        obtain ⟨q, hq, hk⟩ := this
        simp only [List.map_append, List.map_cons, List.nodup_append] at h
        exact h.2.2 q.1 (List.mem_map_of_mem hq) p.1 (by simp) (of_decide_eq_true hk)
    show mergeK (putK acc p.1 p.2) kvs = _
    rw [putK_new p.2 hn, mergeK_nodup kvs _ (by simpa using h)]
    simp
theorem pairs_rep {K : KW} {H : Hp} {O : Addr → Prop} : ∀ {ds : List D} {vs : List V} {ps : List (Str × D)}, Reps K H O vs ds → pairsD ds = some ps → ∃ (as : List Addr) (ys : List V), vs = as.map V.ref ∧
    Paired (fun p kv => SqT K H p [kV kv.1, kv.2]) as ((ps.map fun p => (Sum.inr p.1 : Key)).zip ys) ∧ Reps K H O ys (ps.map (·.2)) ∧ ys.length = ps.length
  | [], _, ps, r, e => by cases r; cases e; exact ⟨[], [], rfl, .nil, .nil, rfl⟩
  | d :: ds, _, ps, r, e => by
    cases r with
    | @cons v vs _ _ r1 r2 =>
      simp only [pairsD, Option.bind_eq_some_iff, Option.map_eq_some_iff] at e
      obtain ⟨p, e1, ps', e2, rfl⟩ := e
      obtain ⟨as, ys, rfl, h1, h2, h3⟩ := pairs_rep r2 e2
      unfold pairD at e1
      split at e1
      · cases e1
        cases r1 with
        | @tup a xs _ t1 rs =>
          cases rs with
          | cons q1 rs =>
            cases rs with
            | cons q2 rs =>
              cases rs
              cases q1
              exact ⟨a :: as, _ :: ys, rfl, .cons t1.sq h1, .cons q2 h2, by simp [h3]⟩
      · cases e1
theorem repsK_of {K : KW} {H : Hp} {O : Addr → Prop} : ∀ {ps : List (Str × D)} {ys : List V}, Reps K H O ys (ps.map (·.2)) → RepsK K H O ((ps.map fun p => (Sum.inr p.1 : Key)).zip ys) (ps.map fun p => (.str p.1, p.2))
  | [], _, r => by cases r; exact .nil
  | p :: ps, _, r => by
    cases r with
    | cons r1 r2 => exact RepsK.cons (k := Sum.inr p.1) r1 (repsK_of r2)
theorem mk_dict {K : KW} {H : Hp} {O : Addr → Prop} {ps : List (Str × D)} {ys : List V} {p : Addr} (ho : OTr O H) (hp : H p = none) (hn : (ps.map (·.1)).Nodup) (r : Reps K H O ys (ps.map (·.2))) (hl : ys.length = ps.length) :
    Rep K (upd H p (.dK (mergeK [] ((ps.map fun p => (Sum.inr p.1 : Key)).zip ys)))) O (.ref p) (dictD ps) := by
  have e : mergeK [] ((ps.map fun p => (Sum.inr p.1 : Key)).zip ys) = (ps.map fun p => (Sum.inr p.1 : Key)).zip ys := by
    rw [mergeK_nodup _ []]
    · rfl
    · rw [List.nil_append, List.map_fst_zip (by simp [hl])]
      rw [show (ps.map fun p => (Sum.inr p.1 : Key)) = (ps.map (·.1)).map Sum.inr by simp]
      exact List.Pairwise.map _ (fun a b h z => h (Sum.inr.inj z)) hn
  rw [e]
  exact .dct upd_same (fun z => ho p z hp) (RepsK.ext (Ext.same (same_upd hp)) _ _ (repsK_of r))
theorem pairItems_of {pins : List (Addr × Obj)} {σ : L2.St} {H : Hp} {s : Shared} (I : Inv X pins σ H s) : ∀ {as : List Addr} {kvs : List (Key × V)}, Paired (fun p kv => SqT (kwOf X) H p [kV kv.1, kv.2]) as kvs →
    ∃ (prs : List (Key × Value)) (ws : List (Value × Value)), KV kvs prs ∧ prs.length = as.length ∧ ws.length = as.length ∧ ∀ (j : Nat) (a : Addr), as[j]? = some a → ∃ k u w, prs[j]? = some (k, w) ∧ ws[j]? = some (u, w) ∧ s.heap.IsTuple a #[u, w] ∧ (mixKind X.prog X.w).is k u = true
  | _, _, .nil => ⟨[], [], .nil, rfl, rfl, fun j a e => by simp at e⟩
  | _, _, .cons (a := p) (b := kv) h t => by
    obtain ⟨prs, ws, r, hl, hl2, hp⟩ := pairItems_of I t
    obtain ⟨its, rv, ht, _⟩ := I.tuple h
    obtain ⟨u, y, ei, ru, ry⟩ := vals2 rv
    subst ei
    refine ⟨(kv.1, y) :: prs, (u, y) :: ws, .cons ⟨rfl, ry⟩ r, by simp [hl], by simp [hl2], fun j a e => ?_⟩
    cases j with
    | zero =>
      simp at e; subst e
      exact ⟨kv.1, u, y, rfl, rfl, ht, kV_is (P := X.prog) (w := X.w) ru⟩
    | succ j => exact hp j a (by simpa using e)
theorem c_dictP (hc : X.calm = true) : CallR X (.type "dict") (l1 (R1 (kwOf X) .dictP)) := by
  intro pins s σ H xs us Q I r h
  obtain ⟨x, rfl, Γ, O, d, r', ho, h1, hs, q⟩ := l1_ex h
  have key : ∀ {ds : List D}, dictOfP ds = some r' → ∃ ps, pairsD ds = some ps ∧ (ps.map (·.1)).Nodup ∧ ps.length ≤ sizeLine ∧ r' = dictD ps := fun {ds} e => by
    unfold dictOfP at e
    rw [Option.bind_eq_some_iff] at e
    obtain ⟨ps, e1, e2⟩ := e
    split at e2
    · rename_i hn
      cases e2
      exact ⟨ps, e1, hn.1, hn.2, rfl⟩
    · cases e2
  cases d with
  | list ds =>
    obtain ⟨a, vs, rfl, t1, rs⟩ := h1
    obtain ⟨ps, e1, hn, hl, rfl⟩ := key (by simpa [sem1] using hs)
    obtain ⟨as, ys, rfl, hp, hr, hlen⟩ := pairs_rep rs e1
    exact call_dictP hc pins s σ H _ us Q I r ⟨a, as, _, rfl, t1.sq, hp, fun p hp0 => q _ _ (same_upd hp0) (mk_dict ho hp0 hn hr hlen)⟩
  | tuple ds =>
    cases h1 with
    | @tup a vs _ t1 rs =>
    obtain ⟨ps, e1, hn, hl, rfl⟩ := key (by simpa [sem1] using hs)
    obtain ⟨as, ys, rfl, hp, hr, hlen⟩ := pairs_rep rs e1
    rw [Vals.ref1 r]
    obtain ⟨ob, hfr, hdn⟩ := t1
    obtain ⟨hob1, hz, its, rv, hob⟩ := (show ObjOk X.prog X.w H s.heap a (.frz ob (.tup (as.map V.ref))) from I.hok a _ hfr)
    have ei := refs_at rv
    subst ei
    obtain ⟨prs, ws, rel, hl1, hl2, hat⟩ := pairItems_of I hp
    obtain ⟨o, ho1, hc1, n, hd1⟩ := id hob
    rw [hob1] at ho1
    cases ho1
    rw [List.length_map] at hz
    have ps' : PairItems s.heap (as.map Value.ref).toArray (fun j => as.getD j 0) ws := by
      refine ⟨by simp [hl2], fun j k v e => ?_⟩
      have hj : j < as.length := by rw [← hl2]; exact (List.getElem?_eq_some_iff.mp e).1
      obtain ⟨k', u', w', e1, e2, e3, e4⟩ := hat j as[j] (List.getElem?_eq_getElem hj)
      rw [e] at e2
      cases e2
      refine ⟨by simp [hj], .inl ?_⟩
      simpa [hj] using e3
    refine PySem.call_dict_pairs (knd := mixKind X.prog X.w) (kvs := prs) (PairArg.tuple a (as.map Value.ref).toArray (fun j => as.getD j 0) ws) (I.ok.hd hc) ⟨⟨ob, n, hob1, hc1, hdn, hd1⟩, ps'⟩ ⟨by omega, fun i key v rel => ?_⟩ (by omega) fun h' tk hd' hk => ?_
    · have hj : i < as.length := by rw [← hl2]; exact (List.getElem?_eq_some_iff.mp rel).1
      obtain ⟨k', u', w', e1, e2, e3, e4⟩ := hat i as[i] (List.getElem?_eq_getElem hj)
      rw [show ws[i]? = some (key, v) from rel] at e2
      cases e2
      exact ⟨k', e1, e4⟩
    · have hm : (s.heap.objs.size == sysModules) = false := beq_eq_false_iff_ne.mpr (Nat.ne_of_gt I.big)
      have hlen' : (mergeK [] ((ps.map fun p => (Sum.inr p.1 : Key)).zip ys)).length ≤ sizeLine := by
        refine Nat.le_trans (length_mergeK _ []) ?_
        rw [List.length_nil, Nat.zero_add, rel.length, hl1]
        exact hz
      have hp0 := I.hok.fresh (Nat.le_refl s.heap.objs.size)
      exact ⟨.ref s.heap.objs.size, upd H s.heap.objs.size (.dK (mergeK [] ((ps.map fun p => (Sum.inr p.1 : Key)).zip ys))), I.laid (t' := tk) (fun b o e => hk b o (by simp) e) (Nat.le_refl _) (show ObjOk X.prog X.w _ _ _ (.dK _) from ⟨hlen', hm, merged [] prs, KV.merge rel .nil, hd'⟩), rfl, q _ _ (same_upd hp0) (mk_dict ho hp0 hn hr hlen)⟩
  | _ => simp [sem1] at hs
end
end Tk
/-! E3: t.index(x), dict(zip(a, b, strict=True)), dicts of the module. -/
namespace Tk
open PySem PySem.Spec PyProof.Rows L2
section
variable {X : Cx} {o e e2 : Expr} {to ta tb : TE} {apos cpos pos : Pos}
def tIxT (K : KW) (to ta : TE) : TE := fun σ H Q => to σ H fun x H1 => (∃ p xs, x = .ref p ∧ TupP H1 p xs) ∧ ta σ H1 fun y H2 => R2 K .indexT x y H2 Q
theorem findIdx_at {ys : List Str} {z : Str} {n : Nat} (h : ys.findIdx? (· == z) = some n) : ys[n]? = some z ∧ ∀ m, m < n → ys[m]? ≠ some z := by
  rw [List.findIdx?_eq_some_iff_getElem] at h
  obtain ⟨hn, h1, h2⟩ := h
  refine ⟨by rw [List.getElem?_eq_getElem hn]; simpa using h1, fun m hm e => ?_⟩
  have hm' : m < ys.length := by omega
  have := h2 m hm
  rw [List.getElem?_eq_getElem hm'] at e
  simp at e this
  exact this e
theorem pe_indexT (ho : PE X o to) (ha : PE X e ta) (mto : MonoE to) (mta : MonoE ta) (hbase : attributeBase o "index" X.env (eval o X.env) = eval o X.env)
    (hs : starEach [e] X.env = (false, eval e X.env) :: starEach [] X.env) (hline : (apos.endLine == cpos.line) = true) :
    PE X (.Call (.Attribute o "index" apos) [e] [] cpos) (tIxT (kwOf X) to ta) := by
  refine ⟨fun pins s σ H Q I h => ?_⟩
  refine wpAny_Call_method_late hbase (by rw [hs]; rfl) hline rfl (thn (ho.run pins s σ H _ I h) fun v s1 ⟨x, H1, I1, r1, ty, q1⟩ => ?_)
  obtain ⟨p, xs, rfl, ob, hfr, hdn⟩ := ty
  cases r1
  obtain ⟨hob1, hz, its, rv, hob⟩ := (show ObjOk X.prog X.w H1 s1.heap p (.frz ob (.tup xs)) from I1.hok p _ hfr)
  refine ⟨"tuple", "tuple.index", PySem.F.plainAttrs_tuple, PySem.F.slot_tuple_index, PySem.F.type_tuple_index, hob.typeIs, fun a e => by cases e; exact ⟨ob, hob1, hdn⟩, ?_⟩
  have hA := (pa_cons ha pa_nil hs).run cpos pins s1 σ H1 (fun ys H2 => ∃ y, ys = [y] ∧ R2 (kwOf X) .indexT (.ref p) y H2 Q) I1 (mta σ H1 _ _ (fun y H2 z => ⟨y, rfl, z⟩) q1)
  rw [hs] at hA ⊢
  refine Calls.callWith_builtin (by rfl) (Calls.evalArgs_plain ?_)
  refine thn hA fun us s2 ⟨vs, H2, I2, r2, y, ey, q2⟩ => ?_
  subst ey
  obtain ⟨Γ, O, d, e, r, ho', h1, h2, hsem, q⟩ := q2
  cases d with
  | tuple ds =>
    cases e with
    | str z =>
      cases h1 with
      | @tup b zs _ t1 rs =>
      simp only [sem2, Option.bind_eq_some_iff, Option.map_eq_some_iff] at hsem
      obtain ⟨ys, e1, n, e2, rfl⟩ := hsem
      have e3 := rs.strs e1
      subst e3
      cases h2
      obtain ⟨g1, g2⟩ := findIdx_at e2
      exact mt_tup_index pins s2 σ H2 (.ref p) _ _ us Q I2 rfl r2 ⟨p, ys, z, n, rfl, rfl, t1.sq, g1, g2, q _ _ (Same.refl _) (.int _)⟩
    | _ => simp [sem2] at hsem
  | _ => cases e <;> simp [sem2] at hsem
def tDZ2 (K : KW) (ta tb : TE) : TE := fun σ H Q => ta σ H fun x H1 => tb σ H1 fun y H2 => R2 K .dzip x y H2 Q
theorem pe_dzip2 {p p2 q kp cp : Pos} {ck : Nat} (hc : X.calm = true) (hg : Gl X "dict") (hm : X.mg "dict" = none) (hg2 : Gl X "zip") (hm2 : X.mg "zip" = none) (ha : PE X e ta) (hb : PE X e2 tb) (mta : MonoE ta) (mtb : MonoE tb)
    (hs : starEach [e, e2] X.env = (false, eval e X.env) :: starEach [e2] X.env) (hs2 : starEach [e2] X.env = (false, eval e2 X.env) :: starEach [] X.env) :
    PE X (.Call (.Name "dict" p) [.Call (.Name "zip" p2) [e, e2] [⟨some (Str.ofString "strict"), .Constant (.bool true) ck cp, kp⟩] q] [] pos) (tDZ2 (kwOf X) ta tb) := by
  have base := Zs.pe_dzip (pos := pos) (p := p) (p2 := p2) (q := q) (kp := kp) (cp := cp) (ck := ck) hc hg hm hg2 hm2 (pa_cons ha (pa_cons hb pa_nil hs2) hs) hs (by rw [hs, hs2]; rfl)
  refine ⟨fun pins s σ H Q I h => base.run pins s σ H Q I ?_⟩
  refine mta σ H _ _ (fun x H1 h1 => mtb σ H1 _ _ (fun y H2 h2 => ?_) h1) h
  obtain ⟨Γ, O, d, e, r, ho', h1, h2, hsem, q⟩ := h2
  cases d with
  | tuple ds =>
    cases e with
    | tuple es =>
      cases h1 with
      | @tup a zs _ t1 rs =>
      cases h2 with
      | @tup b us _ t2 rs2 =>
      simp only [sem2, Option.bind_eq_some_iff] at hsem
      obtain ⟨ks, e1, e2⟩ := hsem
      split at e2
      · rename_i hn
        cases e2
        have e3 := rs.strs e1
        subst e3
        refine ⟨a, b, ks.map Sum.inr, us, rfl, by rw [List.map_map]; exact t1.sq, t2.sq, by rw [List.length_map, hn.2, rs2.length], fun p hp => q _ _ (same_upd hp) ?_⟩
        have hl : ks.length = es.length := hn.2
        have m1 : (ks.zip es).map (·.1) = ks := List.map_fst_zip (by omega)
        have m2 : (ks.zip es).map (·.2) = es := List.map_snd_zip (by omega)
        have := mk_dict (K := (kwOf X)) (O := O) (ps := ks.zip es) (ys := us) ho' hp (by rw [m1]; exact hn.1) (by rw [m2]; exact rs2) (by rw [List.length_zip, ← hl, Nat.min_self, hl, rs2.length])
        have m3 : ((ks.zip es).map fun p => (Sum.inr p.1 : Key)) = ks.map Sum.inr := by
          conv => rhs; rw [← m1]
          rw [List.map_map]; rfl
        rw [m3] at this
        exact this
      · cases e2
    | _ => simp [sem2] at hsem
  | _ => cases e <;> simp [sem2] at hsem
end
end Tk
/-! E4: sorted(set(texts)). -/
namespace Tk
open PySem PySem.Spec PyProof.Rows L2
theorem str_ext {a b : Str} (h : a.cps.toList = b.cps.toList) : a = b := by
  obtain ⟨x⟩ := a
  obtain ⟨y⟩ := b
  exact congrArg Str.mk (Array.toList_inj.mp h)
theorem sort_perm {xs ys : List Str} (p : xs.Perm ys) : sortS xs = sortS ys := by
  have tr : ∀ a b c : Str, leS a b = true → leS b c = true → leS a c = true := fun a b c h1 h2 => by
    simp only [leS, decide_eq_true_eq] at h1 h2 ⊢
    exact List.le_trans h1 h2
  have to : ∀ a b : Str, (leS a b || leS b a) = true := fun a b => by
    simp only [leS, Bool.or_eq_true, decide_eq_true_eq]
    exact List.le_total _ _
  refine List.Perm.eq_of_pairwise (le := fun a b => leS a b = true) (fun a b _ _ h1 h2 => ?_) (List.pairwise_mergeSort tr to xs) (List.pairwise_mergeSort tr to ys) ((List.mergeSort_perm xs leS).trans (p.trans (List.mergeSort_perm ys leS).symm))
  simp only [leS, decide_eq_true_eq] at h1 h2
  exact str_ext (List.le_antisymm h1 h2)
theorem step_mem (acc : List Str) (x k : Str) : k ∈ Zs.ddStep acc x ↔ k ∈ acc ∨ k = x := by
  unfold Zs.ddStep
  split
  · rename_i h
    obtain ⟨y, hy, e⟩ := List.any_eq_true.mp h
    have e := eq_of_beq e
    subst e
    exact ⟨.inl, fun z => z.elim id fun e => e ▸ hy⟩
  · simp
theorem dd_mem0 : ∀ (ys acc : List Str) (k : Str), k ∈ ys.foldl Zs.ddStep acc ↔ k ∈ acc ∨ k ∈ ys
  | [], acc, k => by simp
  | y :: ys, acc, k => by
    rw [List.foldl_cons, dd_mem0 ys, step_mem, List.mem_cons, or_assoc]
theorem dd_mem (ys : List Str) (k : Str) : k ∈ Zs.dd ys ↔ k ∈ ys := by
  unfold Zs.dd
  rw [dd_mem0]; simp
theorem dd_nodup0 : ∀ (ys acc : List Str), acc.Nodup → (ys.foldl Zs.ddStep acc).Nodup
  | [], acc, h => h
  | y :: ys, acc, h => by
    rw [List.foldl_cons]
    refine dd_nodup0 ys _ ?_
    unfold Zs.ddStep
    split
    · exact h
    · rename_i hn
      rw [List.nodup_append]
      refine ⟨h, by simp, fun a ha b hb e => hn ?_⟩
      rw [List.mem_singleton] at hb
      subst hb e
      exact List.any_eq_true.mpr ⟨a, ha, beq_self_eq_true a⟩
theorem dd_nodup (ys : List Str) : (Zs.dd ys).Nodup := dd_nodup0 ys [] List.nodup_nil
theorem strs_len {K : KW} {H : Hp} {O : Addr → Prop} : ∀ {vs : List V} {ds : List D} {ys : List Str}, Reps K H O vs ds → strsD ds = some ys → ∀ k ∈ ys, k.length ≤ sizeLine
  | _, [], ys, r, e, k, hk => by cases e; simp at hk
  | _, d :: ds, ys, r, e, k, hk => by
    cases r with
    | cons r1 r2 =>
      cases d with
      | str z =>
        simp only [strsD, Option.map_eq_some_iff] at e
        obtain ⟨ys', e, rfl⟩ := e
        cases r1 with
        | str _ hz =>
          rcases List.mem_cons.mp hk with rfl | hk
          · exact hz
          · exact strs_len r2 e k hk
      | _ => simp [strsD] at e
section
variable {X : Cx} {sc : Scope}
theorem sorted_setS (hcm : X.calm = true) (hu : X.A.units + 100 < cLine) {pins : List (Addr × Obj)} {σ : L2.St} {H : Hp} {s : Shared} {a : Addr} {S : Str → Bool} {n : Nat} {Q : VK} {O : Addr → Prop} {ys : List Str} (I : Inv X pins σ H s) (ho : OTr O H)
    (R : Zs.SetS X.prog X.w s.heap a S n) (hm : ∀ k, S k = true ↔ k ∈ ys) (hz : ∀ k ∈ ys, k.length ≤ sizeLine) (hys : ys.length ≤ 1000) (q : ∀ v' H', Same H H' → Rep (kwOf X) H' O v' (.list ((sortS (Zs.dd ys)).map .str)) → Q v' H') :
    wpAny (model X.prog X.w) X.A (call (.builtin "sorted") [.ref a]) (EP X pins σ Q) X.xe s := by
  obtain ⟨o, es, ep, t, hob, hex, hd, g, nd, hm2, hb, hf, hn, hr, hl⟩ := R
  refine Calls.call_function_entry PyProof.Rows.kind_sorted PyProof.Rows.plain_sorted PyProof.Rows.entry_sorted (PyProof.Rows.args_sorted1 _) ?_
  unfold Builtin.«sorted»
  refine wpAny_bind (m := checkCount "sorted" 1 1 _) (wpAny_pure ?_)
  refine wpAny_bind (collect_set (A := X.A.in1) (I.ok.hd hcm) ⟨o, hob, hex.1, hd⟩ hf hb hr hl fun s1 vs k1 hz1 g1 o1 pm => ?_)
  -- the texts as they come
  have pk : (es.toList.map Zs.keyS).Perm (Zs.dd ys) := (List.perm_ext_iff_of_nodup nd (dd_nodup ys)).mpr fun k => by rw [dd_mem, ← hm k, hm2 k]
  have hv : ∀ v ∈ vs, ∃ k tk, v = Value.str k tk ∧ k ∈ ys := fun v hv => by
    obtain ⟨e, he, q⟩ := List.mem_map.mp (pm.mem_iff.mp hv)
    obtain ⟨k, tk, h1, _⟩ := g e he
    refine ⟨k, tk, by rw [← q]; exact h1, ?_⟩
    rw [← dd_mem, ← pk.mem_iff]
    exact List.mem_map.mpr ⟨e, he, by unfold Zs.keyS; rw [h1]⟩
  let tx : Value → Str := fun v => Zs.keyS (0, v)
  have pt : (vs.map tx).Perm (Zs.dd ys) := by
    have := pm.map tx
    rw [List.map_map] at this
    exact this.trans pk
  have hvl : vs.length ≤ 1000 := by
    have h1 := pt.length_eq
    have h2 := @Zs.dd_len Str _ ys []
    rw [List.length_map] at h1
    unfold Zs.dd at h1
    simp only [List.length_nil] at h2
    omega
  have hsl : vs.length ≤ sizeLine := by rw [sizeLine_eq]; omega
  have es1 : s1 = { s with heap := s1.heap, gens := s.gens, drawn := s1.drawn, toks := s1.toks } := by
    cases s1
    cases s
    cases o1
    cases g1
    rfl
  have I1 : Inv X pins σ H s1 := by
    rw [es1]
    exact I.call (ch := []) (Un.kept k1) (I.hok.kept k1) I.bare (fun _ z => nomatch z)
  have each : ∀ (H' : Hp) (ws : List Value), (∀ v ∈ ws, v ∈ vs) → PySem.W.EachIs (fun v (b : Str) => ∃ x, RelV x v ∧ Rep (kwOf X) H' O x (.str b)) ws (ws.map tx) := fun H' ws => by
    induction ws with
    | nil => exact fun _ => .nil
    | cons v ws ih =>
      intro hw
      obtain ⟨k, tk, e, hk⟩ := hv v (hw v (by simp))
      subst e
      exact .cons ⟨.str k, ⟨tk, rfl⟩, .str k (hz k hk)⟩ (ih fun u hu => hw u (by simp [hu]))
  refine wpAny_bind (wpAny_newList ?_ hsl)
  have hoL : (s1.heap.push (seqObj "list" vs.toArray 0)).get? s1.heap.objs.size = some (seqObj "list" vs.toArray 0) := Heap.get?_push_size _ rfl
  have er : ∀ (ws : List Value), (∀ v ∈ ws, v ∈ vs) → PySem.W.EachIs (fun v (b : Str) => ∃ as, Reads (s1.heap.push (seqObj "list" vs.toArray 0)) v (PyData.str b) as ∧ s1.heap.objs.size ∉ as) ws (ws.map tx) := fun ws => by
    induction ws with
    | nil => exact fun _ => .nil
    | cons v ws ih =>
      intro hw
      obtain ⟨k, tk, e, hk⟩ := hv v (hw v (by simp))
      subst e
      exact .cons ⟨[], .str .., by simp⟩ (ih fun u hu => hw u (by simp [hu]))
  refine wpAny_bind (wpAny_holding (PySem.W.list_sort_data (s := { s1 with heap := s1.heap.push (seqObj "list" vs.toArray 0) }) (enc := PyData.str) hoL (each H vs fun _ h => h) (er vs fun _ h => h) ?_ ?_ (by rw [List.length_map]; exact hsl) ?_ fun out ho' eo => ?_))
  · intro d hd d' hd'
    obtain ⟨b, _, rfl⟩ := List.mem_map.mp hd
    obtain ⟨b', _, rfl⟩ := List.mem_map.mp hd'
    rfl
  · refine .inr fun d hd => ?_
    obtain ⟨b, _, rfl⟩ := List.mem_map.mp hd
    exact ⟨by simp, fun xs z => by cases z⟩
  · intro b hb
    show X.A.units + 1 + 1 + (PyData.str b).depth < cLine
    have : (PyData.str b).depth = 0 := by simp [PyData.depth]
    omega
  · have le : PySem.W.dataLe false PyData.str = leS := by
      have := PySem.W.dataLe_str (fun b : Str => b)
      exact this
    rw [le] at eo
    have eq : (vs.map tx).mergeSort leS = sortS (Zs.dd ys) := sort_perm pt
    rw [eq] at eo
    have eo' : PySem.W.EachIs (fun v d => ∃ x, RelV x v ∧ Rep (kwOf X) H O x d) out ((sortS (Zs.dd ys)).map .str) := PySem.W.each_map (R := fun v d => ∃ x, RelV x v ∧ Rep (kwOf X) H O x d) PyData.str eo
    obtain ⟨zs, ry, hy⟩ := of_each eo'
    obtain ⟨e', he'⟩ := PyProof.Rows.sortedHeap_at (vs := vs) (out := out.toArray) hoL
    have hlen2 : zs.length ≤ sizeLine := by rw [ry.length, ho', List.length_map]; exact hsl
    have hp := I1.hok.fresh (Nat.le_refl s1.heap.objs.size)
    refine wpAny_pure ⟨_, rfl, .ref s1.heap.objs.size, upd H s1.heap.objs.size (.lst zs), I1.laid (t' := s1.toks) (fun b u e => ?_) (Nat.le_refl _) ⟨hlen2, out, e', by simpa using ry, he'⟩, rfl, q _ _ (same_upd hp) (mkL ho hp hy)⟩
    have hb : b < s1.heap.objs.size := Heap.lt_size e
    rw [PyProof.Rows.sortedHeap_old (Nat.ne_of_lt hb) (by rw [Heap.size_push]; exact Nat.lt_succ_of_lt hb)]
    exact Heap.get?_push_of_some _ e
theorem pe_sortset {a : Expr} {ta : TE} {p p2 q pos : Pos} (hc : X.calm = true) (hu : X.A.units + 100 < cLine) (hg : Gl X "sorted") (hm : X.mg "sorted" = none) (hg2 : Gl X "set") (hm2 : X.mg "set" = none) (ha : PE X a ta) (na : starEach [a] X.env = (false, eval a X.env) :: starEach [] X.env) :
    PE X (.Call (.Name "sorted" p) [.Call (.Name "set" p2) [a] [] q] [] pos) (tUn (R1 (kwOf X) .sortset) ta) := by
  refine ⟨fun pins s σ H Q I h => ?_⟩
  refine Call_ (ld_blt I hg hm boot_sorted ?_)
  refine PyProof.Rows.callWith_builtin1 (PyProof.Rows.args_cons ?_ rfl) rfl rfl
  refine Call_ (ld_blt I hg2 hm2 boot_set ?_)
  refine PyProof.Rows.callWith_type1 (PyProof.Rows.args_cons (thn (ha.run pins s σ H _ I h) fun v s1 ⟨x, H1, I1, r1, q1⟩ => PyProof.Rows.args_nil ?_) na) na rfl
  obtain ⟨Γ, O, d, r, ho, hr, hsem, q⟩ := q1
  cases d with
  | list ds =>
    obtain ⟨a, vs, rfl, t1, rs⟩ := hr
    cases r1
    simp only [sem1, Option.bind_eq_some_iff] at hsem
    obtain ⟨ys, e1, e2⟩ := hsem
    split at e2
    · rename_i hl
      cases e2
      obtain ⟨its, rv, pl, hz⟩ := I1.list t1.sq
      have hst : StrsAre its ys := by
        have e2 := rs.strs e1
        subst e2
        exact strsAre_of rv
      refine Zs.call_set_listS ys (I1.ok.hd hc) pl.isList (by simpa using hst) (by unfold scanBound; omega) fun h' tk c hS hc' hk => ?_
      refine PyProof.Rows.args_nil ?_
      have I2 : Inv X pins σ H1 { s1 with heap := h', toks := tk } := I1.kept hk
      refine sorted_setS hc hu I2 ho hS (fun k => by simp) (fun k hk => ?_) hl q
      exact strs_len rs e1 k hk
    · cases e2
  | _ => simp [sem1] at hsem
theorem pick12 : ∀ (its : List Value), its.length = 12 → slicePick its.toArray none (some 9) (some (-1)) = (its.drop 10).reverse.toArray
  | [_, _, _, _, _, _, _, _, _, _, _, _], _ => by
    unfold slicePick
    have h1 : sliceBounds none (some 9) (some (-1)) 12 = (11, 9, -1) := by decide
    have h2 : sliceRange 11 9 (-1) = [11, 10] := by decide
    show ((sliceRange (sliceBounds none (some 9) (some (-1)) 12).1 (sliceBounds none (some 9) (some (-1)) 12).2.1 (sliceBounds none (some 9) (some (-1)) 12).2.2).filterMap _).toArray = _
    rw [h1]
    show ((sliceRange 11 9 (-1)).filterMap _).toArray = _
    rw [h2]
    rfl
theorem pe_revto {e : Expr} {te : TE} {k k2 : Nat} {p0 p1 p2 p3 pos : Pos} (he : PE X e te) : PE X (.Subscript e (.Slice none (some (.Constant (.int 9) k2 p0)) (some (.UnaryOp .USub (.Constant (.int 1) k p1) p2)) p3) pos) (tUn (R1 (kwOf X) (.revto 9)) te) := by
  refine ⟨fun pins s σ H Q I h => ?_⟩
  refine Subscript_ (thn (he.run pins s σ H _ I h) fun v s1 ⟨x, H1, I1, r1, q1⟩ => ?_)
  obtain ⟨Γ, O, d, r, ho, h1, hs, q⟩ := q1
  have hst : PO X (some (.UnaryOp .USub (.Constant (.int 1) k p1) p2)) (tPart (tUn (rU fun i => .int (-i)) (tC (.int 1)))) := po_some (pe_un un_neg pe_int)
  have hsu : PO X (some (.Constant (.int 9) k2 p0)) (tPart (tC (.int 9))) := po_some pe_int
  refine wpAny_Slice (thn (po_none.run pins s1 σ H1 (fun o G => o = none ∧ G = H1) I1 ⟨rfl, rfl⟩) fun vl s2 ⟨l, G2, I2, pl, el, e2⟩ => ?_)
  subst el e2
  refine thn (hsu.run pins s2 σ G2 (fun o G => o = some 9 ∧ G = G2) I2 ⟨9, rfl, rfl, rfl⟩) fun vu s3 ⟨u, G3, I3, pu, eu, e3⟩ => ?_
  subst eu e3
  refine thn (hst.run pins s3 σ G3 (fun o G => o = some (-1) ∧ G = G3) I3 ⟨1, rfl, -1, rfl, rfl, rfl⟩) fun vs s4 ⟨o, G4, I4, ps, eo, e4⟩ => ?_
  subst eo e4
  have I5 : Inv X pins σ G4 { s4 with heap := s4.heap.push { cls := .type "slice", data := .fields #[vl, vu, vs] } } := I4.kept (t' := s4.toks) fun b ob q => Heap.get?_push_of_some _ q
  have hp := I5.hok.fresh (Nat.le_refl _)
  cases d with
  | list ds =>
    obtain ⟨a, xs, rfl, t1, rs⟩ := h1
    cases r1
    simp only [sem1] at hs
    split at hs
    · rename_i hc
      cases hs
      obtain ⟨its, rv, ht, hz⟩ := I5.list t1.sq
      have hlen := rv.length
      have h12 : its.length = 12 := by rw [← hlen, rs.length]; exact hc.2
      show wpAny (model X.prog X.w) X.A (subscriptTail e (.Slice none (some (.Constant (.int 9) k2 p0)) (some (.UnaryOp .USub (.Constant (.int 1) k p1) p2)) p3) (.ref a) (.ref s4.heap.objs.size)) (EP X pins σ Q) X.xe { s4 with heap := s4.heap.push { cls := .type "slice", data := .fields #[vl, vu, vs] } }
      refine tail_any (ops := [.ref a, .ref s4.heap.objs.size]) ht.isList.typeIs (PySem.slot_list_getitem.lookup) ?_ (by with_unfolding_all rfl)
      refine wpAny_getItem_list_slice ht.isList (Heap.IsSliceOf.new _ vl vu vs) pl pu ps (by decide) ?_ (by rw [List.size_toArray, h12, sizeLine_eq]; omega)
      rw [pick12 its h12]
      refine ⟨.ref _, _, I5.laid (t' := s4.toks) (o := .lst (xs.drop 10).reverse) (fun b ob q => Heap.get?_push_of_some _ q) (Nat.le_refl _) ?_, rfl, q _ _ (same_upd hp) (mkL ho hp (Reps.rev (rs.drop 10)))⟩
      exact ⟨by rw [List.length_reverse, List.length_drop]; omega, _, 0, (rv.drop 10).reverse, Heap.get?_push_size _ rfl⟩
    · cases hs
  | _ => simp [sem1] at hs
theorem m_sindex : MtR X "str.index" (fun x xs H Q => ∃ y, xs = [y] ∧ R2 (kwOf X) .indexS x y H Q) := by
  intro pins s σ H x xs v us Q I rx rs h
  obtain ⟨y, rfl, Γ, O, d, e, r, ho, h1, h2, hs, q⟩ := h
  cases d with
  | str a =>
    cases e with
    | str b =>
      cases h1; cases h2
      simp only [sem2, Option.map_eq_some_iff] at hs
      obtain ⟨i, e1, rfl⟩ := hs
      cases e2 : Builtin.Str.occurrences a b 0 a.length 1 with
      | nil => rw [e2] at e1; cases e1
      | cons j rest =>
        rw [e2] at e1
        cases e1
        exact mt_sindex pins s σ H _ _ v us Q I rx rs ⟨a, b, _, rest, rfl, rfl, e2, q _ _ (Same.refl _) (.int _)⟩
    | _ => simp [sem2] at hs
  | _ => cases e <;> simp [sem2] at hs
end
end Tk
namespace Tk
open PySem PySem.Spec PyProof.Rows L2
theorem PE.imp {X : Cx} {e : Expr} {t t' : TE} (h : PE X e t) (i : ∀ σ H Q, t' σ H Q → t σ H Q) : PE X e t' := ⟨fun pins s σ H Q I q => h.run pins s σ H Q I (i _ _ _ q)⟩
theorem PT.imp {X : Cx} {e : Expr} {t t' : TT} (h : PT X e t) (i : ∀ σ H Q, t' σ H Q → t σ H Q) : PT X e t' := ⟨fun pins s σ H Q I q => h.run pins s σ H Q I (i _ _ _ q)⟩
theorem PW.imp {X : Cx} {e : Expr} {t t' : TT} (h : PW X e t) (i : ∀ σ H Q, t' σ H Q → t σ H Q) : PW X e t' := ⟨fun wh pins s σ H Q I q => h.run wh pins s σ H Q I (i _ _ _ q)⟩
theorem PA.imp {X : Cx} {e : List Expr} {t t' : TA} (h : PA X e t) (i : ∀ σ H Q, t' σ H Q → t σ H Q) : PA X e t' := ⟨fun pos pins s σ H Q I q => h.run pos pins s σ H Q I (i _ _ _ q)⟩
theorem PS.imp {X : Cx} {e : Stmt} {t t' : TS} (h : PS X e t) (i : ∀ D σ H, t' D σ H → t D σ H) : PS X e t' := ⟨fun pins s σ H D I q => h.run pins s σ H D I (i _ _ _ q)⟩
theorem PSs.imp {X : Cx} {e : List Stmt} {t t' : TS} (h : PSs X e t) (i : ∀ D σ H, t' D σ H → t D σ H) : PSs X e t' := ⟨fun pins s σ H D I q => h.run pins s σ H D I (i _ _ _ q)⟩
theorem PI.imp {X : Cx} {tg e : Expr} {t t' : TI} (h : PI X tg e t) (i : ∀ σ H R, t' σ H R → t σ H R) : PI X tg e t' := ⟨fun pins s σ H R I q => h.run pins s σ H R I (i _ _ _ q)⟩
def Mono (t : TE) : Prop := ∀ σ H Q Q', (∀ v H', Q v H' → Q' v H') → t σ H Q → t σ H Q'
/-! ### looks at the text -/
def gl (sc : Scope) (x : Str) : Bool := decide (sc.names.lookup x = some .globalImplicit)
def notStar : Expr → Bool
  | .Starred _ _ => false
  | _ => true
def notSlice : Expr → Bool
  | .Slice _ _ _ _ => false
  | _ => true
def notSet : Expr → Bool
  | .Set _ _ _ => false
  | _ => true
def notSuper : Expr → Bool
  | .Call (.Name _ _) [] [] _ => false
  | _ => true
theorem star_cons {e : Expr} {es : List Expr} {env : Env} (h : notStar e = true) : starEach (e :: es) env = (false, eval e env) :: starEach es env := by
  cases e <;> first | rfl | simp [notStar] at h
def notStars (es : List Expr) : Bool := es.all notStar
theorem stars_any {env : Env} {pos : Pos} : ∀ {es : List Expr}, notStars es = true → (backTo pos (starEach es env)).any (·.1) = false
  | [], _ => rfl
  | e :: es, h => by
    simp only [notStars, List.all_cons, Bool.and_eq_true] at h
    rw [star_cons h.1]
    have := stars_any (env := env) (pos := pos) (es := es) h.2
    simpa [backTo] using this
theorem base_ok {o : Expr} {a : Str} {env : Env} {w : Sem Value} (h : notSuper o = true) : attributeBase o a env w = w := by
  unfold attributeBase
  split
  · simp [notSuper] at h
  · rfl
theorem marks_ok {op : CmpOp} {b : Expr} (h : notSet b = true) : behindInMarks op b = false := by
  cases b <;> first | rfl | simp [notSet] at h
theorem plainIx {b : Expr} (h : notSlice b = true) : PlainIx b := fun _ _ => by
  cases b <;> first | rfl | simp [notSlice] at h
def fnName : Op1 → Option Str
  | .len => some "len"
  | .all => some "all"
  | .any => some "any"
  | .sum => some "sum"
  | .tuple => some "tuple"
  | .list => some "list"
  | .repr => some "repr"
  | .sorted => some "sorted"
  | .int => some "int"
  | .dictP => some "dict"
  | .str => some "str"
  | _ => none
/-- the built-ins that are used -/
def bltNames : List Str := ["len", "all", "any", "sum", "tuple", "list", "repr", "isinstance", "int", "str", "bool", "dict", "range", "zip", "enumerate", "sorted", "set", "max", "min", "reversed"]
def tyS : List String := ["int", "str", "bool", "list", "tuple", "dict"]
def tyNames : List Str := tyS.map Str.ofString
def isType (sc : Scope) (t : Str) : Expr → Bool
  | .Name x _ => decide (x = t) && gl sc x && decide (x ∈ tyNames)
  | _ => false
def isTypes (sc : Scope) : List Str → List Expr → Bool
  | [], [] => true
  | t :: ts, e :: es => isType sc t e && isTypes sc ts es
  | _, _ => false
def chkOp1 (sc : Scope) (o : Op1) (e : Expr) : Option Expr :=
  match o, e with
  | .isN, .Compare a [.Is] [.Constant .none _ _] _ => some a
  | .notN, .Compare a [.IsNot] [.Constant .none _ _] _ => some a
  | .neg, .UnaryOp .USub a _ => some a
  | .rev, .Subscript a (.Slice none none (some (.UnaryOp .USub (.Constant (.int i) _ _) _)) _) _ => if i = 1 then some a else none
  | .revto n, .Subscript a (.Slice none (some (.Constant (.int j) _ _)) (some (.UnaryOp .USub (.Constant (.int i) _ _) _)) _) _ => if i = 1 ∧ j = 9 ∧ n = 9 then some a else none
  | .sortset, .Call (.Name x _) [.Call (.Name y _) [a] [] _] [] _ => if x = "sorted" ∧ y = "set" ∧ gl sc x = true ∧ gl sc y = true ∧ notStar a = true then some a else none
  | .max0, .Call (.Name x _) [a] [⟨some n, .Constant (.int i) _ _, _⟩] _ => if x = "max" ∧ n = "default" ∧ i = 0 ∧ gl sc x = true ∧ notStar a = true then some a else none
  | .setlen, .Call (.Name x _) [.Call (.Name y _) [a] [] _] [] _ => if x = "len" ∧ y = "set" ∧ gl sc x = true ∧ gl sc y = true ∧ notStar a = true then some a else none
  | .isi [t], .Call (.Name x _) [a, c] [] _ => if x = "isinstance" ∧ gl sc x = true ∧ notStar a = true ∧ isType sc t c = true then some a else none
  | .isi ts, .Call (.Name x _) [a, .Tuple cs _ _] [] _ => if x = "isinstance" ∧ gl sc x = true ∧ notStar a = true ∧ isTypes sc ts cs = true ∧ ts.length ≤ 20 then some a else none
  | o, .Call (.Name x _) [a] [] _ => if fnName o = some x ∧ gl sc x = true ∧ notStar a = true then some a else none
  | _, _ => none
def chkOp2 (sc : Scope) (o : Op2) (e : Expr) : Option (Expr × Expr) :=
  match o, e with
  | .add, .BinOp a .Add b _ => some (a, b)
  | .sub, .BinOp a .Sub b _ => some (a, b)
  | .mul, .BinOp a .Mult b _ => some (a, b)
  | .fdiv, .BinOp a .FloorDiv b _ => some (a, b)
  | .mod, .BinOp a .Mod b _ => some (a, b)
  | .pow, .BinOp a .Pow b _ => some (a, b)
  | .eq, .Compare a [.Eq] [b] _ => if notSet b = true then some (a, b) else none
  | .ne, .Compare a [.NotEq] [b] _ => if notSet b = true then some (a, b) else none
  | .lt, .Compare a [.Lt] [b] _ => if notSet b = true then some (a, b) else none
  | .le, .Compare a [.LtE] [b] _ => if notSet b = true then some (a, b) else none
  | .gt, .Compare a [.Gt] [b] _ => if notSet b = true then some (a, b) else none
  | .ge, .Compare a [.GtE] [b] _ => if notSet b = true then some (a, b) else none
  | .inn, .Compare a [.In] [b] _ => if notSet b = true then some (a, b) else none
  | .nin, .Compare a [.NotIn] [b] _ => if notSet b = true then some (a, b) else none
  | .ix, .Subscript a b _ => if notSlice b = true then some (a, b) else none
  | .split, .Call (.Attribute a n ap) [b] [] p => if n = "split" ∧ notSuper a = true ∧ notStar b = true ∧ (ap.endLine == p.line) = true then some (a, b) else none
  | .indexS, .Call (.Attribute a n ap) [b] [] p => if n = "index" ∧ notSuper a = true ∧ notStar b = true ∧ (ap.endLine == p.line) = true then some (a, b) else none
  | .join, .Call (.Attribute a n ap) [b] [] p => if n = "join" ∧ notSuper a = true ∧ notStar b = true ∧ (ap.endLine == p.line) = true then some (a, b) else none
  | .max2, .Call (.Name x _) [a, b] [] _ => if x = "max" ∧ gl sc x = true ∧ notStar a = true ∧ notStar b = true then some (a, b) else none
  | .min2, .Call (.Name x _) [a, b] [] _ => if x = "min" ∧ gl sc x = true ∧ notStar a = true ∧ notStar b = true then some (a, b) else none
  | .index, .Call (.Attribute a n ap) [b] [] p => if n = "index" ∧ notSuper a = true ∧ notStar b = true ∧ (ap.endLine == p.line) = true then some (a, b) else none
  | .indexT, .Call (.Attribute a n ap) [b] [] p => if n = "index" ∧ notSuper a = true ∧ notStar b = true ∧ (ap.endLine == p.line) = true then some (a, b) else none
  | .dzip, .Call (.Name x _) [.Call (.Name y _) [a, b] [⟨some n, .Constant (.bool c) _ _, _⟩] _] [] _ => if x = "dict" ∧ y = "zip" ∧ n = Str.ofString "strict" ∧ c = true ∧ gl sc x = true ∧ gl sc y = true ∧ notStar a = true ∧ notStar b = true then some (a, b) else none
  | _, _ => none
def cmpOf : Op2 → Option CmpOp
  | .eq => some .Eq
  | .ne => some .NotEq
  | .lt => some .Lt
  | .le => some .LtE
  | .gt => some .Gt
  | .ge => some .GtE
  | .inn => some .In
  | .nin => some .NotIn
  | _ => none
/-- what is known where code stands -/
structure Site (X : Cx) (sc : Scope) : Prop where
  sc : X.env.scope = sc
  calm : X.calm = true
  units : X.A.units + 200 < cLine
  guards : X.A.guards = some []
  blt : ∀ x ∈ bltNames, X.mg x = none
section
variable {X : Cx} {Γ : Gh} {sc : Scope} {e ea eb : Expr} {ta tb : TE}
theorem Site.gl (s : Site X sc) {x : Str} (h : gl sc x = true) : Gl X x := by
  unfold Gl
  show X.env.scope.names.lookup x = _
  rw [s.sc]
  exact of_decide_eq_true h
theorem pe_b1 {f : Value} {x : Str} {r : V → Hp → VK → Prop} {p pos : Pos} (S : Site X sc) (hc : CallR X f (l1 r)) (hg : Tk.gl sc x = true) (hm : x ∈ bltNames) (hv : bootBuiltins x = some f) (hf : (∃ id, f = .builtin id) ∨ ∃ T, f = .type T) (hs : notStar e = true)
    (ha : PE X e ta) : PE X (.Call (.Name x p) [e] [] pos) (tUn r ta) := by
  have hn : x ≠ "__name__" := by rintro rfl; exact absurd hm (by decide +kernel)
  have hdb : (x == ("__debug__" : Str)) = false := by
    cases q : x == ("__debug__" : Str) with
    | false => rfl
    | true => rw [eq_of_beq q] at hm; exact absurd hm (by decide +kernel)
  have A := pa_cons ha (pa_nil (X := X)) (star_cons hs)
  have B : starEach [e] X.env = (false, eval e X.env) :: starEach [] X.env := star_cons hs
  rcases hf with ⟨id, rfl⟩ | ⟨T, rfl⟩
  · exact PE.imp (pe_callB hc (S.gl hg) (S.blt x hm) hv A hn hdb B rfl) fun _ _ _ q => q
  · exact PE.imp (pe_callTy hc (S.gl hg) (S.blt x hm) hv A hn hdb B rfl) fun _ _ _ q => q
theorem RRep.ty : ∀ {d : D} {v : V} {H : Hp} {O : Addr → Prop}, RRep (kwOf X) Γ H O v d → (dsetOf d).isSome = false → ∃ t : String, TyX (kwOf X) H v (.type t) ∧ ∀ m ∈ tyS, kitB t m = some (isiD (Str.ofString m) d)
  | .none, _, _, _, h, hn => by cases h; exact ⟨"NoneType", .base .non, by decide +kernel⟩
  | .bool b, _, _, _, h, hn => by cases h; exact ⟨"bool", .base (.bl _), show ∀ m ∈ tyS, kitB "bool" m = some (decide (Str.ofString m = "bool") || decide (Str.ofString m = "int")) by decide +kernel⟩
  | .int i, _, _, _, h, hn => by cases h; exact ⟨"int", .base (.int _), show ∀ m ∈ tyS, kitB "int" m = some (decide (Str.ofString m = "int")) by decide +kernel⟩
  | .str x, _, _, _, h, hn => by cases h; exact ⟨"str", .base (.str _), show ∀ m ∈ tyS, kitB "str" m = some (decide (Str.ofString m = "str")) by decide +kernel⟩
  | .tuple ds, _, _, _, h, hn => by
    cases h with
    | tup h1 h2 =>
      refine ⟨"tuple", ?_, show ∀ m ∈ tyS, kitB "tuple" m = some (decide (Str.ofString m = "tuple")) by decide +kernel⟩
      obtain ⟨o, h1, _⟩ := h1
      exact .fTuple h1
  | .dict ds, _, _, _, h, hn => by
    rcases rep_dict h with ⟨a, kvs, rfl, h1, h2, h3⟩ | ⟨a, xs, rfl, h1, h2, rfl⟩
    · exact ⟨"dict", .base (.dK h1), show ∀ m ∈ tyS, kitB "dict" m = some (decide (Str.ofString m = "dict")) by decide +kernel⟩
    · simp [dsetOf] at hn
  | .list ds, _, _, _, h, hn => by
    obtain ⟨a, xs, rfl, h1, h2⟩ := h
    refine ⟨"list", ?_, show ∀ m ∈ tyS, kitB "list" m = some (decide (Str.ofString m = "list")) by decide +kernel⟩
    rcases h1 with ⟨h1 | ⟨o, h1⟩, _⟩ | ⟨o, its, n, h1, h2, _⟩
    · exact .base (.lst h1)
    · exact .base (.frz h1)
    · exact .kList h1 h2
theorem RRep.same {K : KW} {H H' : Hp} {O : Addr → Prop} (s : Same H H') : ∀ {d : D} {v : V}, RRep K Γ H O v d → RRep K Γ H' O v d
  | .list ds, v, h => by
    obtain ⟨a, xs, e, h1, h2⟩ := h
    exact ⟨a, xs, e, h1.ext (Ext.same s), h2.same s⟩
  | .none, _, h => Rep.ext (Ext.same s) _ _ h
  | .bool _, _, h => Rep.ext (Ext.same s) _ _ h
  | .int _, _, h => Rep.ext (Ext.same s) _ _ h
  | .str _, _, h => Rep.ext (Ext.same s) _ _ h
  | .tuple _, _, h => Rep.ext (Ext.same s) _ _ h
  | .dict _, _, h => Rep.ext (Ext.same s) _ _ h
theorem boot_ty : ∀ m ∈ tyS, bootBuiltins (Str.ofString m) = some (.type m) := by decide +kernel
theorem ty_blt : ∀ m ∈ tyS, Str.ofString m ∈ bltNames := by decide +kernel
theorem blt_ok {x : Str} (hm : x ∈ bltNames) : x ≠ "__name__" ∧ (x == ("__debug__" : Str)) = false := by
  refine ⟨by rintro rfl; exact absurd hm (by decide +kernel), ?_⟩
  cases q : x == ("__debug__" : Str) with
  | false => rfl
  | true => rw [eq_of_beq q] at hm; exact absurd hm (by decide +kernel)
/-- a type's name as a value -/
theorem pe_ty {t : Str} {c : Expr} (S : Site X sc) (h : isType sc t c = true) : ∃ m ∈ tyS, t = Str.ofString m ∧ PE X c (tC (.ty m)) := by
  cases c with
  | Name x p =>
    simp only [isType, Bool.and_eq_true, decide_eq_true_eq] at h
    obtain ⟨⟨rfl, hg⟩, hm⟩ := h
    obtain ⟨m, hm', rfl⟩ := List.mem_map.mp hm
    refine ⟨m, hm', rfl, ?_⟩
    have hb := ty_blt m hm'
    exact pe_bltn (S.gl hg) (S.blt _ hb) (boot_ty m hm') rfl (blt_ok hb).1 (blt_ok hb).2
  | _ => simp [isType] at h
theorem pa_tys : ∀ {ts : List Str} {cs : List Expr}, Site X sc → isTypes sc ts cs = true → ∃ ms : List String, (∀ m ∈ ms, m ∈ tyS) ∧ ts = ms.map Str.ofString ∧ PA X cs (fun _ H Q => Q (ms.map V.ty) H)
  | [], [], _, _ => ⟨[], by simp, rfl, pa_nil⟩
  | [], _ :: _, _, h => by simp [isTypes] at h
  | _ :: _, [], _, h => by simp [isTypes] at h
  | t :: ts, c :: cs, S, h => by
    simp only [isTypes, Bool.and_eq_true] at h
    obtain ⟨m, hm, rfl, P⟩ := pe_ty S h.1
    obtain ⟨ms, hms, rfl, A⟩ := pa_tys S h.2
    have hs : notStar c = true := by
      have h1 := h.1
      cases c <;> first | rfl | simp [isType] at h1
    exact ⟨m :: ms, by simpa using ⟨hm, hms⟩, rfl, PA.imp (pa_cons P A (star_cons hs)) fun _ _ _ q => q⟩
theorem kitAny_of {K : PySem.W.Frag} {t : String} {d : D} (h : ∀ m ∈ tyS, kitB t m = some (isiD (Str.ofString m) d)) : ∀ {ms : List String}, (∀ m ∈ ms, m ∈ tyS) → PySem.W.kitAny K (.type t) (ms.map Value.type) = some ((ms.map Str.ofString).any fun n => isiD n d)
  | [], _ => rfl
  | m :: ms, hm => by
    have h1 := h m (hm m List.mem_cons_self)
    have ih := kitAny_of (K := K) h (ms := ms) fun z hz => hm z (List.mem_cons_of_mem _ hz)
    exact kitAny_cons (kit_ty h1) (fun e => by rw [ih]; simp [e]) (fun e => by simp [e])
theorem cls_tys : ∀ ms : List String, Paired ClsV (ms.map V.ty) (ms.map Value.type)
  | [] => .nil
  | m :: ms => .cons (.ty m) (cls_tys ms)
theorem c_repr (S : Site X sc) : CallR X (.builtin "repr") (l1 (R1 (kwOf X) .repr)) := by
  refine CallR.l1_of fun pins s σ H x u Q I rx h => ?_
  obtain ⟨Γ, O, d, r, ho, hr, hs, q⟩ := h
  simp only [sem1] at hs
  split at hs
  · rename_i hc
    cases hs
    obtain ⟨c1, c2, c3, c4⟩ := hc
    have fin : Q (.str d.shown) H := q _ _ (Same.refl _) (.str _ c4)
    have hd := RRep.dp c2 hr
    obtain ⟨as, rd⟩ := Dp.reads I d x u hd rx
    have hu := S.units
    cases d with
    | none => cases hr; cases rx; exact PySem.P.repr_of_none ⟨.str _, H, I.tok _, ⟨_, rfl⟩, fin⟩
    | bool b => cases hr; cases rx; exact PySem.P.repr_of_bool ⟨.str _, H, I.tok _, ⟨_, rfl⟩, fin⟩
    | int i => cases hr; obtain ⟨t, rfl⟩ := rx; exact PySem.P.repr_of_int (by simpa [PyData.showable] using c1) ⟨.str _, H, I.tok _, ⟨_, rfl⟩, fin⟩
    | str y => cases hr; obtain ⟨t, rfl⟩ := rx; exact PySem.P.repr_of_str ⟨.str _, H, I.tok _, ⟨_, rfl⟩, fin⟩ c4
    | list ds =>
      obtain ⟨a, xs, rfl, _⟩ := hr
      cases rx
      exact repr_of_reads' rd c1 (fun z => by rw [c2] at z; cases z) S.guards (by omega) (fun _ _ z => z) (fun h' t tk hk => ⟨.str _, H, I.kept hk, ⟨_, rfl⟩, fin⟩) c4
    | tuple ds =>
      cases hr with
      | tup h1 h2 =>
        cases rx
        exact repr_of_reads' rd c1 (fun z => by rw [c2] at z; cases z) S.guards (by omega) (fun _ _ z => z) (fun h' t tk hk => ⟨.str _, H, I.kept hk, ⟨_, rfl⟩, fin⟩) c4
    | dict ds => simp [PyData.hasDict] at c2
  · cases hs
theorem op1_ok (S : Site X sc) {o : Op1} (h : chkOp1 sc o e = some ea) (ha : PE X ea ta) (ma : Mono ta) : PE X e (tUn (R1 (kwOf X) o) ta) := by
  have plain : ∀ {x : Str} {p pos : Pos} {a : Expr}, fnName o = some x → Tk.gl sc x = true → notStar a = true → PE X a ta → PE X (.Call (.Name x p) [a] [] pos) (tUn (R1 (kwOf X) o) ta) := fun {x p pos a} hf hg hs ha => by
    cases o with
    | len => cases hf; exact pe_b1 S c_len hg (by decide +kernel) boot_len (.inl ⟨_, rfl⟩) hs ha
    | all => cases hf; exact pe_b1 S (c_all S.calm) hg (by decide +kernel) (by decide +kernel) (.inl ⟨_, rfl⟩) hs ha
    | any => cases hf; exact pe_b1 S (c_any S.calm) hg (by decide +kernel) (by decide +kernel) (.inl ⟨_, rfl⟩) hs ha
    | sum => cases hf; exact pe_b1 S (c_sum S.calm) hg (by decide +kernel) (by decide +kernel) (.inl ⟨_, rfl⟩) hs ha
    | tuple => cases hf; exact pe_b1 S c_tuple hg (by decide +kernel) (by decide +kernel) (.inr ⟨_, rfl⟩) hs ha
    | list => cases hf; exact pe_b1 S c_list hg (by decide +kernel) (by decide +kernel) (.inr ⟨_, rfl⟩) hs ha
    | sorted => cases hf; exact pe_b1 S (c_sorted S.calm (by have := S.units; omega)) hg (by decide +kernel) (by decide +kernel) (.inl ⟨_, rfl⟩) hs ha
    | int => cases hf; exact pe_b1 S c_int hg (by decide +kernel) (by decide +kernel) (.inr ⟨_, rfl⟩) hs ha
    | str => cases hf; exact pe_b1 S c_str hg (by decide +kernel) (by decide +kernel) (.inr ⟨_, rfl⟩) hs ha
    | dictP => cases hf; exact pe_b1 S (c_dictP S.calm) hg (by decide +kernel) (by decide +kernel) (.inr ⟨_, rfl⟩) hs ha
    | repr => cases hf; exact pe_b1 S (c_repr S) hg (by decide +kernel) (by decide +kernel) (.inl ⟨_, rfl⟩) hs ha
    | _ => cases hf
  unfold chkOp1 at h
  split at h
  · cases h
    refine ⟨fun pins s σ H Q I h => ?_⟩
    refine wpAny_Compare1 (thn (ha.run pins s σ H _ I h) fun v s1 ⟨x, H1, I1, r1, Γ, O, d, r, ho, hr, hs, q⟩ => ?_) rfl
    simp only [sem1, Option.some.injEq] at hs
    subst hs
    exact Constant_none (is_none_gen ⟨.bl _, H1, I1, by rw [r1.none_iff, hr.isN]; rfl, q _ _ (Same.refl _) (.bl _)⟩)
  · cases h
    refine ⟨fun pins s σ H Q I h => ?_⟩
    refine wpAny_Compare1 (thn (ha.run pins s σ H _ I h) fun v s1 ⟨x, H1, I1, r1, Γ, O, d, r, ho, hr, hs, q⟩ => ?_) rfl
    simp only [sem1, Option.some.injEq] at hs
    subst hs
    exact Constant_none (isnot_none_gen ⟨.bl _, H1, I1, by rw [r1.none_iff, hr.isN]; rfl, q _ _ (Same.refl _) (.bl _)⟩)
  · cases h
    refine PE.imp (pe_un (r := R1 (kwOf X) .neg) ?_ ha) fun _ _ _ q => q
    intro pins s σ H x v Q I rx h
    obtain ⟨Γ, O, d, r, ho, hr, hs, q⟩ := h
    cases d with
    | int i =>
      cases hr
      simp [sem1] at hs; subst hs
      exact un_neg pins s σ H _ v Q I rx ⟨i, rfl, q _ _ (Same.refl _) (.int _)⟩
    | _ => simp [sem1] at hs
  · split at h
    · rename_i hi
      cases h
      subst hi
      exact pe_rev ha
    · cases h
  · split at h
    · rename_i hc
      cases h
      obtain ⟨rfl, rfl, rfl⟩ := hc
      exact pe_revto ha
    · cases h
  · split at h
    · rename_i hc
      cases h
      obtain ⟨rfl, rfl, hg, hg2, hs⟩ := hc
      exact pe_sortset S.calm (by have := S.units; omega) (S.gl hg) (S.blt _ (by decide +kernel)) (S.gl hg2) (S.blt _ (by decide +kernel)) ha (star_cons hs)
    · cases h
  · split at h
    · rename_i hc
      cases h
      obtain ⟨rfl, rfl, rfl, hg, hs⟩ := hc
      have hb : ("max" : Str) ∈ bltNames := by decide +kernel
      refine PE.imp (pe_callBK (ck_max0 S.calm (by have := S.units; omega)) (S.gl hg) (S.blt _ hb) (by decide +kernel) (pa_cons ha pa_nil (star_cons hs)) (pk_cons pe_int pk_nil) (blt_ok hb).1 (blt_ok hb).2 (by rw [star_cons hs]; rfl) (by rw [star_cons hs]; rfl) rfl rfl rfl) fun σ H Q q => ?_
      exact ma σ H _ _ (fun v H1 z => ⟨v, rfl, rfl, z⟩) q
    · cases h
  · split at h
    · rename_i hc
      cases h
      obtain ⟨rfl, rfl, hg, hg2, hs⟩ := hc
      exact pe_setlen S.calm (S.gl hg) (S.blt _ (by decide +kernel)) (S.gl hg2) (S.blt _ (by decide +kernel)) ha (star_cons hs)
    · cases h
  · rename_i t x p a c pos
    split at h
    · rename_i hc
      cases h
      obtain ⟨rfl, hg, hs, ht⟩ := hc
      obtain ⟨m, hm, rfl, P⟩ := pe_ty S ht
      have hsc : notStar c = true := by
        cases c <;> first | rfl | simp [isType] at ht
      have hb : ("isinstance" : Str) ∈ bltNames := by decide +kernel
      refine PE.imp (pe_callB call_isi (S.gl hg) (S.blt _ hb) (by decide +kernel) (pa_cons ha (pa_cons P pa_nil (star_cons hsc)) (star_cons hs)) (blt_ok hb).1 (blt_ok hb).2 (star_cons hs) (stars_any (by simp [notStars, hsc]))) fun σ H Q q => ?_
      refine ma σ H _ _ (fun v H1 z => ?_) q
      obtain ⟨Γ, O, d, r, ho, hr, hs, q⟩ := z
      simp only [sem1] at hs
      split at hs
      · cases hs
      rename_i hn
      cases hs
      obtain ⟨t, ty, k⟩ := hr.ty (by simpa using hn)
      exact ⟨v, .ty m, .type t, .type m, isiD (Str.ofString m) d, rfl, .ty m, ty, kit_ty (k m hm), q _ _ (Same.refl _) (by simpa using Rep.bl _)⟩
    · cases h
  · rename_i ts x p a cs k tp pos _
    split at h
    · rename_i hc
      cases h
      obtain ⟨rfl, hg, hs, ht, hlen⟩ := hc
      obtain ⟨ms, hms, rfl, A⟩ := pa_tys S ht
      have hb : ("isinstance" : Str) ∈ bltNames := by decide +kernel
      refine PE.imp (pe_callB call_isiT (S.gl hg) (S.blt _ hb) (by decide +kernel) (pa_cons ha (pa_cons (pe_tup A) pa_nil (star_cons rfl)) (star_cons hs)) (blt_ok hb).1 (blt_ok hb).2 (star_cons hs) (stars_any (by simp [notStars, notStar]))) fun σ H Q q => ?_
      refine ma σ H _ _ (fun v H1 z => ?_) q
      obtain ⟨Γ, O, d, r, ho, hr, hs, q⟩ := z
      simp only [sem1] at hs
      split at hs
      · cases hs
      rename_i hn
      cases hs
      refine ⟨by rw [sizeLine_eq]; simp only [List.length_map] at hlen ⊢; omega, fun p hp => ?_⟩
      have hr' := RRep.same (same_upd (o := .tup (ms.map V.ty)) hp) hr
      obtain ⟨t, ty, k⟩ := hr'.ty (by simpa using hn)
      exact ⟨v, p, ms.map V.ty, .type t, ms.map Value.type, _, rfl, upd_same, cls_tys ms, ty, kitAny_of k hms, q _ _ (same_upd hp) (.bl _)⟩
    · cases h
  · split at h
    · rename_i hc
      cases h
      exact plain hc.1 hc.2.1 hc.2.2 ha
    · cases h
  · cases h
/-- what a method's receiver must be, ahead of the arguments -/
def rcv (K : KW) (o : Op2) (x : V) (H : Hp) : Prop := match o with
  | .split => ∃ a, x = .str a
  | .join => ∃ a, x = .str a
  | .indexS => ∃ a, x = .str a
  | .index => ∃ p xs, x = .ref p ∧ SqL K H p xs
  | .indexT => ∃ p xs, x = .ref p ∧ TupP H p xs
  | _ => True
def tOp2 (K : KW) (o : Op2) (ta tb : TE) : TE := fun σ H Q => ta σ H fun x H1 => rcv K o x H1 ∧ tb σ H1 fun y H2 => R2 K o x y H2 Q
theorem rcv_of : ∀ {o : Op2} {d : D} {v : V} {H : Hp} {O : Addr → Prop}, recv o d = true → RRep (kwOf X) Γ H O v d → rcv (kwOf X) o v H := by
  intro o d v H O h r
  cases o <;> first | trivial | skip
  · cases d <;> first | (simp [recv] at h; done) | skip
    cases r; exact ⟨_, rfl⟩
  · cases d <;> first | (simp [recv] at h; done) | skip
    cases r; exact ⟨_, rfl⟩
  · cases d <;> first | (simp [recv] at h; done) | skip
    obtain ⟨a, xs, rfl, h1, _⟩ := r
    exact ⟨a, xs, rfl, h1.sq⟩
  · cases d <;> first | (simp [recv] at h; done) | skip
    cases r with
    | tup h1 _ => exact ⟨_, _, rfl, h1⟩
  · cases d <;> first | (simp [recv] at h; done) | skip
    cases r; exact ⟨_, rfl⟩
theorem m_split : MtR X "str.split" (fun x xs H Q => ∃ y, xs = [y] ∧ R2 (kwOf X) .split x y H Q) := by
  intro pins s σ H x xs v us Q I rx rs h
  obtain ⟨y, rfl, Γ, O, d, e, r, ho, h1, h2, hs, q⟩ := h
  cases d with
  | str a =>
    cases e with
    | str b =>
      cases h1; cases h2
      simp only [sem2] at hs
      split at hs
      · rename_i hc
        cases hs
        refine mt_split pins s σ H _ _ v us Q I rx rs ⟨a, b, rfl, rfl, by simpa using hc.1, hc.2.1, fun p hp => q _ _ (same_upd hp) (mkL ho hp (Reps.ofStrs fun y hy => ?_))⟩
        exact of_decide_eq_true (List.all_eq_true.mp hc.2.2 y hy)
      · cases hs
    | _ => simp [sem2] at hs
  | _ => cases e <;> simp [sem2] at hs
theorem m_join : MtR X "str.join" (fun x xs H Q => ∃ y, xs = [y] ∧ R2 (kwOf X) .join x y H Q) := by
  intro pins s σ H x xs v us Q I rx rs h
  obtain ⟨y, rfl, Γ, O, d, e, r, ho, h1, h2, hs, q⟩ := h
  cases d with
  | str a =>
    cases e with
    | list ds =>
      cases h1
      obtain ⟨p, ys, rfl, t1, r1⟩ := h2
      simp only [sem2, Option.bind_eq_some_iff] at hs
      obtain ⟨zs, e1, hs⟩ := hs
      split at hs
      · rename_i hc
        cases hs
        have e2 := r1.strs e1
        subst e2
        exact mt_join pins s σ H _ _ v us Q I rx rs ⟨a, p, zs, rfl, rfl, .inl t1.sq, hc.1, q _ _ (Same.refl _) (.str _ hc.2)⟩
      · cases hs
    | tuple ds =>
      cases h1
      cases h2 with
      | tup t1 r1 =>
        simp only [sem2, Option.bind_eq_some_iff] at hs
        obtain ⟨zs, e1, hs⟩ := hs
        split at hs
        · rename_i hc
          cases hs
          have e2 := r1.strs e1
          subst e2
          exact mt_join pins s σ H _ _ v us Q I rx rs ⟨a, _, zs, rfl, rfl, .inr t1.sq, hc.1, q _ _ (Same.refl _) (.str _ hc.2)⟩
        · cases hs
    | _ => simp [sem2] at hs
  | _ => cases e <;> simp [sem2] at hs
theorem firstAt_at {d : D} : ∀ {xs : List D} {j : Nat}, firstAt d xs = some j → ∃ z, xs[j]? = some z ∧ PyData.eqv z d = true ∧ ∀ (m : Nat) z', m < j → xs[m]? = some z' → PyData.eqv z' d = false
  | [], _, h => by simp [firstAt] at h
  | x :: xs, j, h => by
    unfold firstAt at h
    split at h
    · rename_i hx
      cases h
      exact ⟨x, rfl, hx, fun m _ hm => absurd hm (Nat.not_lt_zero m)⟩
    · rename_i hx
      rw [Option.map_eq_some_iff] at h
      obtain ⟨i, e, rfl⟩ := h
      obtain ⟨z, e1, e2, e3⟩ := firstAt_at e
      refine ⟨z, by simpa using e1, e2, fun m z' hm hz => ?_⟩
      cases m with
      | zero => simp at hz; subst hz; simpa using hx
      | succ m => exact e3 m z' (by omega) (by simpa using hz)
theorem depthAll_le : ∀ {xs : List D}, allShaped xs = true → PyData.depthAll xs ≤ 64
  | [], _ => by simp [PyData.depthAll]
  | x :: xs, h => by
    simp only [allShaped, List.all_cons, Bool.and_eq_true] at h
    have h1 := depth_of_shaped h.1
    have h2 := depthAll_le (xs := xs) h.2
    simp only [PyData.depthAll]
    omega
theorem m_index (S : Site X sc) : MtR X "list.index" (fun x xs H Q => ∃ y, xs = [y] ∧ R2 (kwOf X) .index x y H Q) := by
  intro pins s σ H x xs v us Q I rx rs h
  obtain ⟨y, rfl, Γ, O, d, e, r, ho, h1, h2, hs, q⟩ := h
  have hu := S.units
  cases d with
  | list ds =>
    obtain ⟨p, ys, rfl, t1, r1⟩ := id h1
    simp only [sem2] at hs
    split at hs
    · rename_i hc
      rw [Option.map_eq_some_iff] at hs
      obtain ⟨j, e1, rfl⟩ := hs
      obtain ⟨z, e2, e3, e4⟩ := firstAt_at e1
      exact mt_indexD (by omega) pins s σ H _ _ v us Q I rx rs ⟨p, y, e, ds, j, z, rfl, rfl, h1.dp (shaped_dict hc.2), h2.dp (shaped_dict hc.1), hc.2, hc.1, e2, e3, e4, q _ _ (Same.refl _) (.int _)⟩
    · cases hs
  | _ => cases e <;> simp [sem2] at hs
/-- the operator behind a comparison -/
theorem cmp_ok (S : Site X sc) {o : Op2} {op : CmpOp} (h : cmpOf o = some op) : OpR X (compareOp op) (R2 (kwOf X) o) := by
  have hu := S.units
  cases o <;> simp only [cmpOf, reduceCtorEq, Option.some.injEq] at h <;> subst h
  · exact o_eq (by omega)
  · exact o_ne (by omega)
  · exact o_lt (by omega)
  · exact o_le
  · exact o_gt
  · exact o_ge
  · exact o_in (by omega)
  · exact o_nin (by omega)
theorem op2_ok (S : Site X sc) {o : Op2} (h : chkOp2 sc o e = some (ea, eb)) (ha : PE X ea ta) (hb : PE X eb tb) (ma : Mono ta) (mb : Mono tb) : PE X e (tOp2 (kwOf X) o ta tb) := by
  have drop : ∀ {o : Op2} {t : TE}, (∀ x H, rcv (kwOf X) o x H) → t = tOp (R2 (kwOf X) o) ta tb → PE X e t → PE X e (tOp2 (kwOf X) o ta tb) := fun {o t} _ et p => by
    subst et
    exact PE.imp p fun σ H Q q => ma σ H _ _ (fun v H1 z => z.2) q
  have cmp : ∀ {op : CmpOp} {a b : Expr} {pos : Pos}, (∀ x H, rcv (kwOf X) o x H) → cmpOf o = some op → e = .Compare a [op] [b] pos → (if notSet b = true then some (a, b) else none) = some (ea, eb) → PE X e (tOp2 (kwOf X) o ta tb) := fun {op a b pos} hr hc he h => by
    split at h
    · rename_i hn
      cases h
      subst he
      exact drop hr rfl (pe_cmpR (cmp_ok S hc) ha hb (marks_ok hn))
    · cases h
  unfold chkOp2 at h
  split at h
  · cases h; exact drop (fun _ _ => trivial) rfl (pe_op o_add ha hb)
  · cases h; exact drop (fun _ _ => trivial) rfl (pe_op o_sub ha hb)
  · cases h; exact drop (fun _ _ => trivial) rfl (pe_op o_mul ha hb)
  · cases h; exact drop (fun _ _ => trivial) rfl (pe_op o_fdiv ha hb)
  · cases h; exact drop (fun _ _ => trivial) rfl (pe_op o_mod ha hb)
  · cases h; exact drop (fun _ _ => trivial) rfl (pe_op o_pow ha hb)
  · exact cmp (fun _ _ => trivial) rfl rfl h
  · exact cmp (fun _ _ => trivial) rfl rfl h
  · exact cmp (fun _ _ => trivial) rfl rfl h
  · exact cmp (fun _ _ => trivial) rfl rfl h
  · exact cmp (fun _ _ => trivial) rfl rfl h
  · exact cmp (fun _ _ => trivial) rfl rfl h
  · exact cmp (fun _ _ => trivial) rfl rfl h
  · exact cmp (fun _ _ => trivial) rfl rfl h
  · split at h
    · rename_i hn
      cases h
      exact drop (fun _ _ => trivial) rfl (pe_ix (o_ix (by have := S.units; omega)) ha hb (plainIx hn))
    · cases h
  · split at h
    · rename_i hc
      cases h
      obtain ⟨rfl, h1, h2, h3⟩ := hc
      refine PE.imp (pe_m1 F.slot_str_split F.type_str_split (m_split) ha hb (star_cons h2) (base_ok h1) h3) fun σ H Q q => ?_
      exact ma σ H _ _ (fun v H1 z => ⟨z.1, mb σ H1 _ _ (fun u H2 z2 => ⟨u, rfl, z2⟩) z.2⟩) q
    · cases h
  · split at h
    · rename_i hc
      cases h
      obtain ⟨rfl, h1, h2, h3⟩ := hc
      refine PE.imp (pe_m1 F.slot_str_index F.type_str_index (m_sindex) ha hb (star_cons h2) (base_ok h1) h3) fun σ H Q q => ?_
      exact ma σ H _ _ (fun v H1 z => ⟨z.1, mb σ H1 _ _ (fun u H2 z2 => ⟨u, rfl, z2⟩) z.2⟩) q
    · cases h
  · split at h
    · rename_i hc
      cases h
      obtain ⟨rfl, h1, h2, h3⟩ := hc
      refine PE.imp (pe_m1 F.slot_str_join F.type_str_join (m_join) ha hb (star_cons h2) (base_ok h1) h3) fun σ H Q q => ?_
      exact ma σ H _ _ (fun v H1 z => ⟨z.1, mb σ H1 _ _ (fun u H2 z2 => ⟨u, rfl, z2⟩) z.2⟩) q
    · cases h
  · split at h
    · rename_i hc
      cases h
      obtain ⟨rfl, hg, h1, h2⟩ := hc
      have hbl : ("max" : Str) ∈ bltNames := by decide +kernel
      refine PE.imp (pe_callB (c_max2 S.calm) (S.gl hg) (S.blt _ hbl) (by decide +kernel) (pa_cons ha (pa_cons hb pa_nil (star_cons h2)) (star_cons h1)) (blt_ok hbl).1 (blt_ok hbl).2 (star_cons h1) (stars_any (by simp [notStars, h2]))) fun σ H Q q => ?_
      exact ma σ H _ _ (fun v H1 z => z.2) q
    · cases h
  · split at h
    · rename_i hc
      cases h
      obtain ⟨rfl, hg, h1, h2⟩ := hc
      have hbl : ("min" : Str) ∈ bltNames := by decide +kernel
      refine PE.imp (pe_callB (c_min2 S.calm) (S.gl hg) (S.blt _ hbl) (by decide +kernel) (pa_cons ha (pa_cons hb pa_nil (star_cons h2)) (star_cons h1)) (blt_ok hbl).1 (blt_ok hbl).2 (star_cons h1) (stars_any (by simp [notStars, h2]))) fun σ H Q q => ?_
      exact ma σ H _ _ (fun v H1 z => z.2) q
    · cases h
  · split at h
    · rename_i hc
      cases h
      obtain ⟨rfl, h1, h2, h3⟩ := hc
      refine PE.imp (pe_bm PySem.F.plainAttrs_list PySem.F.slot_list_index PySem.F.type_list_index (m_index S) ha (pa_cons hb pa_nil (star_cons h2)) (base_ok h1) ?_ h3 (star_cons h2) rfl) fun σ H Q q => ?_
      · rw [star_cons h2]; rfl
      · refine ma σ H _ _ (fun v H1 z => ⟨?_, mb σ H1 _ _ (fun u H2 z2 => ⟨u, rfl, z2⟩) z.2⟩) q
        obtain ⟨p, xs, rfl, hq⟩ := z.1
        exact .inl ⟨rfl, xs, hq⟩
    · cases h
  · split at h
    · rename_i hc
      cases h
      obtain ⟨rfl, h1, h2, h3⟩ := hc
      exact pe_indexT ha hb ma mb (base_ok h1) (star_cons h2) h3
    · cases h
  · split at h
    · rename_i hc
      cases h
      obtain ⟨rfl, rfl, rfl, rfl, hg, hg2, h1, h2⟩ := hc
      exact PE.imp (pe_dzip2 S.calm (S.gl hg) (S.blt _ (by decide +kernel)) (S.gl hg2) (S.blt _ (by decide +kernel)) ha hb ma mb (star_cons h1) (star_cons h2)) fun σ H Q q => ma σ H _ _ (fun v H1 z => z.2) q
    · cases h
  · cases h
end
end Tk
namespace Tk
open PySem PySem.Spec PyProof.Rows L2
abbrev FT := Nat → Option (Str × Nat)
def vis (sc : Scope) (x : Str) : Bool := match sc.names.lookup x with
  | some .local => true
  | some .cell => true
  | some .free => true
  | _ => false
def plainName (x : Str) : Bool := !(x == ("__debug__" : Str)) && !(x == ("__classdict__" : Str))
def constIs : D → Const → Bool
  | .none, .none => true
  | .bool b, .bool c => b == c
  | .int i, .int j => i == j
  | .str x, .str y => decide (x = y) && decide (x.length ≤ sizeLine)
  | _, _ => false
mutual
def chkT (N : List Str) (sc : Scope) (fn : Str → Bool) : Tg → Expr → Bool
  | .name i, .Name x _ => decide (N[i]? = some x) && (decide (sc.names.lookup x = some .local) || (decide (sc.names.lookup x = some .cell) && fn x))
  | .tup t, .Tuple es _ _ => chkTs N sc fn t es
  | _, _ => false
def chkTs (N : List Str) (sc : Scope) (fn : Str → Bool) : Tg → List Expr → Bool
  | .nil, [] => true
  | .cons t u, e :: es => notStar e && chkT N sc fn t e && chkTs N sc fn u es
  | _, _ => false
end
def tgs : Tg → List Nat
  | .name i => [i]
  | .nil => []
  | .cons t u => tgs t ++ tgs u
  | .tup t => tgs t
def isTup : Expr → Bool
  | .Tuple _ _ _ => true
  | _ => false
/-- the keys of a display are these texts -/
def keysAre : List Str → List (Option Expr) → Bool
  | [], [] => true
  | k :: ks, some (.Constant (.str x) _ _) :: es => decide (x = k) && decide (x.length ≤ sizeLine) && keysAre ks es
  | _, _ => false
mutual
def chkE (F : FT) (N : List Str) : CE → Scope → Expr → Bool
  | .const d, _, .Constant c _ _ => constIs d c
  | .var i, sc, .Name x _ => decide (N[i]? = some x) && vis sc x && plainName x
  | .glob y, sc, .Name x _ => decide (x = y) && gl sc x && plainName x
  | .tup r, sc, .Tuple es _ _ => chkA F N r sc es
  | .lst r, sc, .List es _ => chkA F N r sc es
  | .op1 o a, sc, e => match chkOp1 sc o e with
    | some ea => chkE F N a sc ea
    | none => false
  | .op2 o a b, sc, e => match chkOp2 sc o e with
    | some (ea, eb) => chkE F N a sc ea && chkE F N b sc eb
    | none => false
  | .slc a lo hi, sc, .Subscript ea (.Slice l h none _) _ => chkE F N a sc ea && chkP F N lo sc l && chkP F N hi sc h
  | .chain o o' a b c, sc, .Compare ea [op, op'] [eb, ec] _ => decide (cmpOf o = some op) && decide (cmpOf o' = some op') && notSet ec && chkE F N a sc ea && chkE F N b sc eb && chkE F N c sc ec
  | .and_ a r, sc, .BoolOp .And (e1 :: e2 :: es) pos => chkE F N a sc e1 && (match es with
    | [] => chkE F N r sc e2
    | e3 :: es' => chkE F N r sc (.BoolOp .And (e2 :: e3 :: es') pos))
  | .or_ a r, sc, .BoolOp .Or (e1 :: e2 :: es) pos => chkE F N a sc e1 && (match es with
    | [] => chkE F N r sc e2
    | e3 :: es' => chkE F N r sc (.BoolOp .Or (e2 :: e3 :: es') pos))
  | .not_ a, sc, .UnaryOp .Not ea _ => chkE F N a sc ea
  | .ifx c a b, sc, .IfExp ec ea eb _ => chkE F N c sc ec && chkE F N a sc ea && chkE F N b sc eb
  | .call f r, sc, .Call (.Name x _) es [] _ => decide (F f = some (x, es.length)) && gl sc x && plainName x && notStars es && chkA F N r sc es
  | .comp own e t it ifs, sc, .ListComp elt [⟨tg, iter, ifs', a⟩] scope _ =>
      decide (a = 0) && blkC N sc scope (own.map fun i => (N.getD i "", i)) && notSet iter && chkI F N it sc tg iter
        && chkT N (relS scope sc) (fun x => scope.names.lookup x == some .cell) t tg && (tgs t).all (fun i => decide (i ∈ own))
        && (match ifs' with
          | [] => (match ifs with | .nil => true | _ => false)
          | [c] => chkE F N ifs (relS scope sc) c
          | _ => false)
        && chkE F N e (relS scope sc) elt
  | .comp2 own own2 e t it t2 it2 ifs, sc, .ListComp elt [⟨tg, iter, ifs1, a⟩, ⟨tg2, iter2, ifs2, a2⟩] scope _ =>
      decide (a = 0) && decide (a2 = 0) && ifs1.isEmpty && blkC N sc scope (own.map fun i => (N.getD i "", i)) && notSet iter && notSet iter2 && chkI F N it sc tg iter && chkI F N it2 (relS scope sc) tg2 iter2
        && chkT N (relS scope sc) (fun x => scope.names.lookup x == some .cell) t tg && chkT N (relS scope sc) (fun x => scope.names.lookup x == some .cell) t2 tg2 && (tgs t).all (fun i => decide (i ∈ own)) && (tgs t2).all (fun i => decide (i ∈ own2)) && own2.all (fun i => decide (i ∈ own))
        && (match ifs2 with
          | [] => (match ifs with | .nil => true | _ => false)
          | [c] => chkE F N ifs (relS scope sc) c
          | _ => false)
        && chkE F N e (relS scope sc) elt
  | .dset i a, sc, .DictComp (.Name x _) (.Constant (.bool c) _ _) [⟨.Name y _, iter, [], 0⟩] scope _ =>
      c && decide (x = y) && decide (N[i]? = some x) && blkC N sc scope [(x, i)] && notSet iter && chkE F N a sc iter
        && (decide ((relS scope sc).names.lookup x = some .local) || (decide ((relS scope sc).names.lookup x = some .cell) && (scope.names.lookup x == some .cell))) && vis (relS scope sc) x && plainName x
  | .disp ks r, sc, .Dict keys values _ => keysAre ks keys && decide (keys.length = values.length) && notStars values && chkA F N r sc values && decide (ks.length ≤ 15)
  | .getG y a, sc, .Subscript (.Name x _) e _ => decide (x = y) && gl sc x && plainName x && notSlice e && chkE F N a sc e
  | .inG neg a y, sc, .Compare ea [op] [.Name x _] _ => decide (op = if neg then .NotIn else .In) && decide (x = y) && gl sc x && plainName x && chkE F N a sc ea
  | _, _, _ => false
def chkP (F : FT) (N : List Str) : CE → Scope → Option Expr → Bool
  | .nopart, _, none => true
  | .cons a .nil, sc, some e => chkE F N a sc e
  | _, _, _ => false
def chkA (F : FT) (N : List Str) : CE → Scope → List Expr → Bool
  | .nil, _, [] => true
  | .cons a r, sc, e :: es => notStar e && chkE F N a sc e && chkA F N r sc es
  | _, _, _ => false
def chkI (F : FT) (N : List Str) : CE → Scope → Expr → Expr → Bool
  | .iter a, sc, _, e => chkE F N a sc e
  | .range1 a, sc, _, .Call (.Name x _) [ea] [] _ => decide (x = "range") && gl sc x && notStar ea && chkE F N a sc ea
  | .range2 a b, sc, _, .Call (.Name x _) [ea, eb] [] _ => decide (x = "range") && gl sc x && notStar ea && notStar eb && chkE F N a sc ea && chkE F N b sc eb
  | .zip2 a b, sc, tg, .Call (.Name x _) [ea, eb] [] _ => isTup tg && decide (x = "zip") && gl sc x && notStar ea && notStar eb && chkE F N a sc ea && chkE F N b sc eb
  | .zip2s a b, sc, tg, .Call (.Name x _) [ea, eb] [⟨some n, .Constant (.bool c) _ _, _⟩] _ => c && isTup tg && decide (n = Str.ofString "strict") && decide (x = "zip") && gl sc x && notStar ea && notStar eb && chkE F N a sc ea && chkE F N b sc eb
  | .enum a, sc, tg, .Call (.Name x _) [ea] [] _ => isTup tg && decide (x = "enumerate") && gl sc x && notStar ea && chkE F N a sc ea
  | _, _, _, _ => false
end
theorem warmE {F : FT} {N : List Str} {sc : Scope} {e : Expr} : chkE F N .nil sc e = false := by simp [chkE]
theorem warmI {F : FT} {N : List Str} {sc : Scope} {t e : Expr} : chkI F N .nil sc t e = false := by simp [chkI]
theorem warmP {F : FT} {N : List Str} {sc : Scope} {e : Option Expr} : chkP F N .nil sc e = false := by simp [chkP]
theorem warmA {F : FT} {N : List Str} {sc : Scope} : chkA F N .nil sc [] = true := by simp [chkA]
end Tk
namespace Tk
open PySem PySem.Spec PyProof.Rows L2
abbrev XRep := Hp → (Addr → Prop) → Exc → Value → Option Addr → Prop
/-- an argument -/
def ARep (K : KW) (Γ : Gh) (H : Hp) (O : Addr → Prop) : Slot → V → Prop
  | .val d, v => Rep K H O v d
  | .st, v => v = Γ.sv ∧ v ≠ .non
  | .own _, _ => False
inductive AReps (K : KW) (Γ : Gh) (H : Hp) (O : Addr → Prop) : List Slot → List V → Prop
  | nil : AReps K Γ H O [] []
  | cons {s : Slot} {v : V} {ss : List Slot} {vs : List V} : ARep K Γ H O s v → AReps K Γ H O ss vs → AReps K Γ H O (s :: ss) (v :: vs)
/-- what a def hands back -/
def RRes (K : KW) (Γ : Gh) (H H' : Hp) (O : Addr → Prop) : Slot → V → Prop
  | .val d, v => Rep K H' O v d
  | .own ds, v => ∃ a vs, v = .ref a ∧ H' a = some (.lst vs) ∧ H a = none ∧ Reps K H' (fun b => O b ∨ b = a) vs ds
  | .st, v => v = Γ.sv ∧ v ≠ .non
/-- a def's promise -/
def spC (K : KW) (xr : XRep) (C : Nat → List Slot → (Slot → Prop) → KX → Prop) (f : Nat) (np : Nat) : Sp := fun vs H Q E => vs.length = np ∧ ∃ Γ O ss k x, Γ.Ok ∧ Γ.W H ∧ OTr O H ∧ (∀ b, Γ.M b → O b) ∧ AReps K Γ H O ss vs ∧ C f ss k x ∧
  (∀ s v H', k s → Later Γ H H' → RRes K Γ H H' O s v → Q v H') ∧ (∀ e cls dd H', x e → Later Γ H H' → xr H' O e cls dd → E cls dd H')
/-- as FnOk, where no repr is under way -/
structure FnG (P : Program) (w : World) (K : KW) (mg : Str → Option Value) (base : Heap) (k : Nat) (f : Addr) (fd : FuncData) (ps : List Str) (sp : Sp) : Prop where
  len : ∀ vs H Q E, sp vs H Q E → vs.length = ps.length
  run : ∀ (A : Around) (outer : List Env) (s : Shared) (H : Hp) (args : Args) (us : List Value) (vs : List V) (Q : VK) (E : XK), Room k A → A.guards = some [] → Env0 P w K mg base A outer s H → BindsTo s fd args (ps.zip us) → Vals vs us → sp vs H Q E →
    codeAny (model P w) A (.call (.ref f) args) (CR (L2.CX P w) outer P w H s Q E) s
structure Stat (X : Cx) (F : FT) (C : Cfg) (xr : XRep) (n : Nat) : Prop where
  glob : ∀ x d, C.glob x = some d → isDictD d = false → ∃ u v, X.mg x = some u ∧ RelV v u ∧ ∀ H O, Rep (kwOf X) H O v d
  gd : ∀ x es, C.glob x = some (.dict es) → ∃ d ens n, X.mg x = some (.ref d) ∧ KDict X.K X.w d ens n ∧ ∀ z : Str, ∃ r, PySem.W.nsIn X.K d z = some r ∧ (lookD es (.inr z)).isSome = r.isSome ∧
    ∀ v, lookD es (.inr z) = some v → ∃ u0 v0, r = some u0 ∧ RelV v0 u0 ∧ ∀ H O, Rep (kwOf X) H O v0 v
  xm : ∀ H (O O1 : Addr → Prop) e cls dd, (∀ b, O b → O1 b) → xr H O1 e cls dd → xr H O e cls dd
  lens : ∀ f nm np, F f = some (nm, np) → ∀ ss k x, C.call f ss k x → ss.length = np
  fns : ∀ f nm np, F f = some (nm, np) → ∃ a fd ps, X.mg nm = some (.ref a) ∧ PySem.W.keepIn (kwOf X) (.ref a) = true ∧ ps.length = np ∧ Binds (kwOf X) fd ps [] ∧ FnG X.prog X.w (kwOf X) X.mg X.base n a fd ps (spC (kwOf X) xr C.call f np)
structure Here (X : Cx) (F : FT) (N : List Str) (sc : Scope) (C : Cfg) (xr : XRep) (n : Nat) (W : WX) : Prop where
  site : Site X sc
  stat : Stat X F C xr n
  room : Room n X.A
  hN : X.N = N
  nd : X.N.Nodup
  tk : Takes X W
section
variable {X : Cx} {F : FT} {N : List Str} {sc : Scope} {C : Cfg} {xr : XRep} {n : Nat} {W : WX}
theorem run_fnG {pins : List (Addr × Obj)} {σ : L2.St} {H : Hp} {s : Shared} {Q : VK} {us : List Value} {vs : List V} {f : Addr} {fd : FuncData} {ps : List Str} {sp : Sp} (G : FnG X.prog X.w (kwOf X) X.mg X.base n f fd ps sp) (hr : Room n X.A) (hg : X.A.guards = some []) (hb : Binds (kwOf X) fd ps []) (tk : Takes X W)
    (I : Inv X pins σ H s) (r : Vals vs us) (h : sp vs H Q fun cls dd H' => W cls dd σ H') : wpAny (model X.prog X.w) X.A (PySem.call (.ref f) us) (EP X pins σ Q) X.xe s := by
  have hl : us.length = ps.length := by rw [← r.length]; exact G.len _ _ _ _ h
  have hb' := hb s us I.kIn (by simpa using hl)
  simp only [List.append_nil] at hb'
  refine wpAny_call (codeAny_mono (G.run X.A X.stack s H ⟨us, []⟩ us vs Q _ hr hg I.env0 hb' r h) fun r s' hq => ?_)
  cases r with
  | error e => exact tk e s' (XE.of_call I (fun cls d H' h => h) hq)
  | ok fl =>
    cases fl with
    | ret u => exact I.after hq
    | _ => exact hq.elim
/-- f(..) of the program's own -/
theorem pe_fn {f : Nat} {x : Str} {e : Expr} {es : List Expr} {t : TA} {p pos : Pos} (h : Here X F N sc C xr n W) (hF : F f = some (x, (e :: es).length)) (hg : gl sc x = true) (hp : plainName x = true) (hs : notStars (e :: es) = true) (ha : PA X (e :: es) t) :
    PE X (.Call (.Name x p) (e :: es) [] pos) (fun σ H Q => t σ H fun vs H1 => spC (kwOf X) xr C.call f (e :: es).length vs H1 Q fun cls dd H' => W cls dd σ H') := by
  obtain ⟨a, fd, ps, m1, m2, m3, m4, m5⟩ := h.stat.fns f x _ hF
  have hdb : (x == ("__debug__" : Str)) = false := by
    simp only [plainName, Bool.and_eq_true, Bool.not_eq_true'] at hp
    exact hp.1
  refine ⟨fun pins s σ H Q I q => ?_⟩
  refine wpAny_Call_Name_kw (ld_glob I (h.site.gl hg) m1 ?_ hdb)
  simp only [notStars, List.all_cons, Bool.and_eq_true] at hs
  refine PySem.W.callWith_K (h₀ := X.base) I.ok.mod.kin m2 (thn (ha.run pos pins s σ H _ I q) fun us s1 ⟨vs, H1, I1, r, q⟩ => ⟨I1.kIn, ?_⟩) (star_cons hs.1) (stars_any hs.2)
  exact run_fnG m5 h.room h.site.guards m4 h.tk I1 r q
theorem pe_fn0 {f : Nat} {x : Str} {p pos : Pos} (h : Here X F N sc C xr n W) (hF : F f = some (x, 0)) (hg : gl sc x = true) (hp : plainName x = true) :
    PE X (.Call (.Name x p) [] [] pos) (fun σ H Q => spC (kwOf X) xr C.call f 0 [] H Q fun cls dd H' => W cls dd σ H') := by
  obtain ⟨a, fd, ps, m1, m2, m3, m4, m5⟩ := h.stat.fns f x _ hF
  have hdb : (x == ("__debug__" : Str)) = false := by
    simp only [plainName, Bool.and_eq_true, Bool.not_eq_true'] at hp
    exact hp.1
  refine ⟨fun pins s σ H Q I q => ?_⟩
  refine wpAny_Call_Name_kw (ld_glob I (h.site.gl hg) m1 ?_ hdb)
  exact PySem.W.callWith_K0 I.kIn m2 (run_fnG (us := []) m5 h.room h.site.guards m4 h.tk I .nil q)
/-! ### what the terms ask of the slots and the heap -/
def Vr (K : KW) (Γ : Gh) (rd : Bool) (H : Hp) (O : Addr → Prop) (v : V) (d : D) : Prop := match rd with
  | true => RRep K Γ H O v d
  | false => Rep K H O v d
/-- what is wanted of an exception -/
def XOk (xr : XRep) (W : WX) (Γ : Gh) (O : Addr → Prop) (σ : L2.St) (H : Hp) (x : KX) : Prop := ∀ e cls dd H', x e → Later Γ H H' → xr H' O e cls dd → W cls dd σ H'
def tE (K : KW) (xr : XRep) (C : Cfg) (W : WX) (rd : Bool) (c : CE) : TE := fun σ H Q => ∃ Γ δ O k x, Fr K Γ δ σ H O ∧ ev C rd c δ k x ∧
  (∀ d v H', k d → Later Γ H H' → Vr K Γ rd H' O v d → Q v H') ∧ XOk xr W Γ O σ H x
def tA (K : KW) (xr : XRep) (C : Cfg) (W : WX) (c : CE) : TA := fun σ H Q => ∃ Γ δ O k x, Fr K Γ δ σ H O ∧ evA C c δ k x ∧
  (∀ ss vs H', k ss → Later Γ H H' → AReps K Γ H' O ss vs → Q vs H') ∧ XOk xr W Γ O σ H x
def tT (K : KW) (xr : XRep) (C : Cfg) (W : WX) (c : CE) : TT := fun σ H Q => ∃ Γ δ O k x, Fr K Γ δ σ H O ∧ evT C c δ k x ∧
  (∀ b H', k b → Later Γ H H' → Q b H') ∧ XOk xr W Γ O σ H x
def tP (K : KW) (xr : XRep) (C : Cfg) (W : WX) (c : CE) : TO := fun σ H Q => ∃ Γ δ O k x, Fr K Γ δ σ H O ∧ evP C c δ k x ∧
  (∀ i H', k i → Later Γ H H' → Q i H') ∧ XOk xr W Γ O σ H x
/-- what is walked is no row of pairs -/
def plainIt : CE → Bool
  | .zip2 _ _ => false
  | .zip2s _ _ => false
  | .enum _ => false
  | _ => true
/-- a pair that a walk hands out (its object isn't known) -/
def PRep (K : KW) (H : Hp) (O : Addr → Prop) (v : V) (d : D) : Prop := ∃ a xs ds, v = .ref a ∧ SqT K H a xs ∧ Reps K H O xs ds ∧ d = .tuple ds
def WRp (K : KW) (pl : Bool) (H : Hp) (O : Addr → Prop) (v : V) (d : D) : Prop := match pl with
  | true => Rep K H O v d
  | false => PRep K H O v d
/-- a walk over things: it stands as long as nothing of it is changed -/
def WalkOf (K : KW) (Γ : Gh) (pl : Bool) (O : Addr → Prop) (H : Hp) (rd : Bool) (J : It) (xs : List D) : Prop := ∃ G Y, Walk J xs.length G Y ∧
  ∀ H1 O1, Ext H H1 O O1 → (rd = true → SameM Γ H H1) → OTr O1 H1 → G H1 ∧ ∀ i v H2, i < xs.length → Y i H1 v H2 → Same H1 H2 ∧ ∃ d, xs[i]? = some d ∧ WRp K pl H2 O1 v d
def tI (K : KW) (xr : XRep) (C : Cfg) (W : WX) (rd : Bool) (c : CE) : TI := fun σ H R => ∃ Γ δ O k x, Fr K Γ δ σ H O ∧ evI C rd c δ k x ∧
  (∀ xs J H', k xs → Later Γ H H' → WalkOf K Γ (plainIt c) O H' rd J xs → R J H') ∧ XOk xr W Γ O σ H x
end
section
variable {K : KW} {xr : XRep} {C : Cfg} {W : WX} {Γ : Gh} {δ : Dl} {σ : L2.St} {H H' H1 : Hp} {O : Addr → Prop} {x : KX}
theorem Later.refl (w : Γ.W H) : Later Γ H H := ⟨fun _ _ h _ => h, w⟩
theorem XOk.later (h : XOk xr W Γ O σ H x) (l : Later Γ H H1) : XOk xr W Γ O σ H1 x := fun e cls dd H' a b c => h e cls dd H' a (l.trans b) c
theorem mono_tE {rd : Bool} {c : CE} : Mono (tE K xr C W rd c) := fun σ H Q Q' hq ⟨Γ, δ, O, k, x, h1, h2, h3, h4⟩ => ⟨Γ, δ, O, k, x, h1, h2, fun d v H' a b c => hq _ _ (h3 d v H' a b c), h4⟩
theorem Vr.of (f : ∀ b, Γ.M b → O b) {rd : Bool} {v : V} {d : D} (h : Rep K H O v d) : Vr K Γ rd H O v d := by
  cases rd with
  | true => exact h.r f
  | false => exact h
theorem Vr.r (f : ∀ b, Γ.M b → O b) {rd : Bool} {v : V} {d : D} (h : Vr K Γ rd H O v d) : RRep K Γ H O v d := by
  cases rd with
  | true => exact h
  | false => exact Rep.r f h
theorem AReps.length : ∀ {ss : List Slot} {vs : List V}, AReps K Γ H O ss vs → ss.length = vs.length
  | _, _, .nil => rfl
  | _, _, .cons _ r => by simp [r.length]
theorem AReps.vals : ∀ {ss : List Slot} {vs : List V} {ds : List D}, AReps K Γ H O ss vs → valsD ss = some ds → Reps K H O vs ds
  | _, _, ds, .nil, e => by simp [valsD] at e; subst e; exact .nil
  | s :: ss, _, ds, .cons h r, e => by
    cases s with
    | val d =>
      simp only [valsD, Option.map_eq_some_iff] at e
      obtain ⟨es, e1, rfl⟩ := e
      exact .cons h (r.vals e1)
    | _ => simp [valsD] at e
theorem ARep.later (f : Fr K Γ δ σ H O) (l : Later Γ H H') : ∀ {s : Slot} {v : V}, ARep K Γ H O s v → ARep K Γ H' O s v
  | .val d, v, h => Rep.ext (f.ext l) d v h
  | .st, _, h => h
  | .own _, _, h => h
/-- a test's own form -/
def plainTest : Expr → Bool
  | .UnaryOp .Not _ _ => false
  | .BoolOp _ _ _ => false
  | .IfExp _ _ _ _ => false
  | .Compare _ _ _ _ => false
  | _ => true
theorem test_eq {e : Expr} {env : Env} (h : plainTest e = true) (whole : Sem Value) : isTrue e env whole = (do let v ← whole; standAt e.pos; holding [v] (truthy v)) := by
  cases e <;> first | rfl | (simp [plainTest] at h; done) | skip
  rename_i op a p
  cases op <;> first | rfl | (simp [plainTest] at h)
end
end Tk
namespace Tk
open PySem PySem.Spec PyProof.Rows L2
section
variable {K : KW} {xr : XRep} {C : Cfg} {W : WX} {Γ : Gh} {δ δ' : Dl} {σ σ' : L2.St} {H H' H1 H2 : Hp} {O : Addr → Prop} {x : KX} {p : Addr}
theorem SameM.ext (f : Fr K Γ δ σ H O) {O' : Addr → Prop} (s : SameM Γ H H') (hn : ∀ b, O' b → O b ∨ H b = none) : Ext H H' O O' :=
  ⟨fun b u h n => s b u h fun z => n (f.m b z), hn, fun b xs h => s b _ h fun z => f.gh.wt H H f.w f.w b z xs h, fun b o u h => s b _ h fun z => f.gh.wf H b f.w z o u h⟩
theorem Fr.set {i : Nat} {v : V} {d : D} (f : Fr K Γ δ σ H O) (hi : i < δ.length) (r : Rep K H O v d) : Fr K Γ (δ.set i (some (.val d))) (σ.set i (some v)) H O where
  gh := f.gh
  len := by simp [f.len]
  same := f.same
  sub := f.sub
  otr := f.otr
  w := f.w
  slot := fun j s h => by
    by_cases e : i = j
    · subst e
      rw [List.getElem?_set_self hi] at h
      cases h
      exact ⟨v, List.getElem?_set_self (by rw [← f.len]; exact hi), r⟩
    · rw [List.getElem?_set_ne e] at h
      obtain ⟨u, e1, r1⟩ := f.slot j s h
      exact ⟨u, by rw [List.getElem?_set_ne e]; exact e1, r1⟩
  dist := fun j k a ds es h1 h2 h3 h4 => by
    by_cases e : i = j
    · subst e
      rw [List.getElem?_set_self hi] at h1
      cases h1
    · by_cases e' : i = k
      · subst e'
        rw [List.getElem?_set_self hi] at h2
        cases h2
      · rw [List.getElem?_set_ne e] at h1 h3
        rw [List.getElem?_set_ne e'] at h2 h4
        exact f.dist j k a ds es h1 h2 h3 h4
theorem wipeD_some {i : Nat} {s : Slot} : ∀ {vs : List Nat}, (wipeD δ vs)[i]? = some (some s) → δ[i]? = some (some s) ∧ i ∉ vs
  | [], h => ⟨h, by simp⟩
  | v :: vs, h => by
    unfold wipeD at h
    by_cases hi : v = i
    · subst hi
      by_cases hv : v < (wipeD δ vs).length
      · rw [List.getElem?_set_self hv] at h; cases h
      · rw [List.getElem?_eq_none (by simpa using hv)] at h; cases h
    · rw [List.getElem?_set_ne hi] at h
      obtain ⟨h1, h2⟩ := wipeD_some h
      exact ⟨h1, by simp only [List.mem_cons, not_or]; exact ⟨fun e => hi e.symm, h2⟩⟩
theorem wipe_get {i : Nat} : ∀ {vs : List Nat}, i ∉ vs → (wipe σ vs)[i]? = σ[i]?
  | [], _ => rfl
  | v :: vs, h => by
    simp only [List.mem_cons, not_or] at h
    unfold wipe
    rw [List.getElem?_set_ne (fun e => h.1 e.symm)]
    exact wipe_get h.2
theorem wipeD_length : ∀ vs : List Nat, (wipeD δ vs).length = δ.length
  | [] => rfl
  | v :: vs => by unfold wipeD; rw [List.length_set, wipeD_length vs]
theorem wipe_set_comm (τ : L2.St) (i : Nat) (v : Option V) : ∀ vs : List Nat, i ∈ vs → wipe (τ.set i v) vs = wipe τ vs
  | [], h => by cases h
  | w :: vs, h => by
    unfold wipe
    by_cases hi : i ∈ vs
    · rw [wipe_set_comm τ i v vs hi]
    · rcases List.mem_cons.mp h with rfl | h'
      · have key : ∀ ws : List Nat, i ∉ ws → wipe (τ.set i v) ws = (wipe τ ws).set i v := by
          intro ws
          induction ws with
          | nil => intro _; rfl
          | cons u ws ih =>
            intro hn
            simp only [List.mem_cons, not_or] at hn
            unfold wipe
            rw [ih hn.2, List.set_comm _ _ hn.1]
        rw [key vs hi, List.set_set]
      · exact absurd h' hi
theorem wipe_wipe (τ : L2.St) : ∀ (us vs : List Nat), (∀ i ∈ us, i ∈ vs) → wipe (wipe τ us) vs = wipe τ vs
  | [], _, _ => rfl
  | u :: us, vs, h => by
    show wipe ((wipe τ us).set u none) vs = _
    rw [wipe_set_comm _ u none vs (h u List.mem_cons_self)]
    exact wipe_wipe τ us vs fun i hi => h i (List.mem_cons_of_mem _ hi)
theorem Fr.wipe (f : Fr K Γ δ σ H O) (vs : List Nat) : Fr K Γ (wipeD δ vs) (L2.wipe σ vs) H O where
  gh := f.gh
  len := by rw [wipeD_length, wipe_length]; exact f.len
  same := f.same
  sub := f.sub
  otr := f.otr
  w := f.w
  slot := fun i s h => by
    obtain ⟨h1, h2⟩ := wipeD_some h
    obtain ⟨v, e, r⟩ := f.slot i s h1
    exact ⟨v, by rw [wipe_get h2]; exact e, r⟩
  dist := fun i j a ds es h1 h2 h3 h4 => by
    obtain ⟨h1', n1⟩ := wipeD_some h1
    obtain ⟨h2', n2⟩ := wipeD_some h2
    rw [wipe_get n1] at h3
    rw [wipe_get n2] at h4
    exact f.dist i j a ds es h1' h2' h3 h4
/-- a list of one's own is laid -/
theorem Fr.alloc {o : HO} (f : Fr K Γ δ σ H O) (hp : H p = none) : Fr K Γ δ σ (upd H p o) (fun b => O b ∨ b = p) := by
  have hs : Same H (upd H p o) := same_upd hp
  have l : Later Γ H (upd H p o) := Later.of_same f.gh f.w hs
  have hx : Ext H (upd H p o) O (fun b => O b ∨ b = p) := ⟨fun b u h _ => hs b u h, fun b h => h.elim .inl fun e => .inr (by rw [e]; exact hp), fun b xs h => hs b _ h, fun b _ _ h => hs b _ h⟩
  refine ⟨f.gh, f.len, fun b u h n => hs b u (f.same b u h n), fun b h => .inl (f.sub b h), fun b h e => ?_, l.w, fun i s h => ?_, f.dist⟩
  · rcases h with h | rfl
    · cases q : H b with
      | none => exact f.otr b h q
      | some u => rw [hs b u q] at e; cases e
    · rw [upd_same] at e; cases e
  · obtain ⟨v, e, r⟩ := f.slot i s h
    refine ⟨v, e, ?_⟩
    cases s with
    | val d => exact Rep.ext hx d v r
    | own ds =>
      obtain ⟨a, vs, e1, e2, e3, e4, e5⟩ := r
      exact ⟨a, vs, e1, hs a _ e2, .inl e3, e4, Reps.ext hx ds vs e5⟩
    | st => exact r
/-- a list of one's own that is no slot's is changed -/
theorem Fr.write {xs ys : List V} (f : Fr K Γ δ σ H O) (hp : H p = some (.lst xs)) (ho : O p) (h0 : Γ.H0 p = none) (hn : ∀ (i : Nat) ds, δ[i]? = some (some (.own ds)) → σ[i]? ≠ some (some (.ref p))) : Fr K Γ δ σ (upd H p (.lst ys)) O ∧ Ext H (upd H p (.lst ys)) O O := by
  have nm : ¬ Γ.M p := f.noM h0
  have keep : ∀ b u, H b = some u → b ≠ p → upd H p (.lst ys) b = some u := fun b u h n => by rw [upd_ne n]; exact h
  have hx : Ext H (upd H p (.lst ys)) O O := by
    refine ⟨fun b u h n => keep b u h (fun z => n (by rw [z]; exact ho)), fun b h => .inl h, fun b zs h => keep b _ h fun z => ?_, fun b o u h => keep b _ h fun z => ?_⟩
    · rw [z, hp] at h; cases h
    · rw [z, hp] at h; cases h
  refine ⟨⟨f.gh, f.len, fun b u h n => keep b u (f.same b u h n) (fun z => by rw [z, h0] at h; cases h), f.sub, fun b h e => ?_, ?_, fun i s h => ?_, f.dist⟩, hx⟩
  · by_cases z : b = p
    · subst z; rw [upd_same] at e; cases e
    · rw [upd_ne z] at e; exact f.otr b h e
  · exact f.gh.ws H _ (fun b hb => upd_ne fun z => nm (by rw [← z]; exact hb)) f.w
  · obtain ⟨v, e, r⟩ := f.slot i s h
    refine ⟨v, e, ?_⟩
    cases s with
    | val d => exact Rep.ext hx d v r
    | own ds =>
      obtain ⟨a, vs, e1, e2, e3, e4, e5⟩ := r
      subst e1
      have na : a ≠ p := fun z => hn i ds h (by rw [e, z])
      exact ⟨a, vs, rfl, keep a _ e2 na, e3, e4, Reps.ext hx ds vs e5⟩
    | st => exact r
end
/-! ### targets -/
def TRep (K : KW) (H : Hp) (O : Addr → Prop) (t : Tg) (v : V) (d : D) : Prop := match t with
  | .tup _ => Rep K H O v d ∨ PRep K H O v d
  | _ => Rep K H O v d
theorem TRep.of {K : KW} {H : Hp} {O : Addr → Prop} {t : Tg} {v : V} {d : D} (h : Rep K H O v d) : TRep K H O t v d := by
  cases t <;> first | exact h | exact .inl h
theorem TRep.ofW {K : KW} {H : Hp} {O : Addr → Prop} {t : Tg} {v : V} {d : D} {pl : Bool} (h : WRp K pl H O v d) (ht : pl = false → ∃ u, t = .tup u) : TRep K H O t v d := by
  cases pl with
  | true => exact .of h
  | false =>
    obtain ⟨u, rfl⟩ := ht rfl
    exact .inr h
def gT (K : KW) (t : Tg) : TG := fun v σ H Q => ∃ Γ δ O d k, Fr K Γ δ σ H O ∧ bindT t d δ k ∧ TRep K H O t v d ∧
  ∀ δ' σ', k δ' → Fr K Γ δ' σ' H O → (∀ vs : List Nat, (∀ i ∈ tgs t, i ∈ vs) → wipe σ' vs = wipe σ vs) → Q σ' H
def gTs (K : KW) (t : Tg) : TGs := fun vs σ H Q => ∃ Γ δ O ds k, Fr K Γ δ σ H O ∧ bindTs t ds δ k ∧ Reps K H O vs ds ∧
  ∀ δ' σ', k δ' → Fr K Γ δ' σ' H O → (∀ vs : List Nat, (∀ i ∈ tgs t, i ∈ vs) → wipe σ' vs = wipe σ vs) → Q σ' H
theorem assign_cons {e : Expr} {es : List Expr} {env : Env} (h : notStar e = true) : assignEach (e :: es) env = (false, assign e env) :: assignEach es env := by
  cases e <;> first | rfl | simp [notStar] at h
section
variable {X : Cx} {N : List Str} {sc : Scope} {fn : Str → Bool}
theorem chkTs_stars : ∀ {t : Tg} {es : List Expr}, chkTs N sc fn t es = true → notStars es = true
  | .nil, [], _ => rfl
  | .cons t u, e :: es, h => by
    simp only [chkTs, Bool.and_eq_true] at h
    simp only [notStars, List.all_cons, Bool.and_eq_true]
    exact ⟨h.1.1, chkTs_stars h.2⟩
  | .nil, _ :: _, h => by simp [chkTs] at h
  | .cons _ _, [], h => by simp [chkTs] at h
  | .name _, _, h => by simp [chkTs] at h
  | .tup _, _, h => by simp [chkTs] at h
theorem assign_len {env : Env} : ∀ {es : List Expr}, notStars es = true → (assignEach es env).length = es.length ∧ (assignEach es env).findIdx? (·.1) = none
  | [], _ => ⟨rfl, rfl⟩
  | e :: es, h => by
    simp only [notStars, List.all_cons, Bool.and_eq_true] at h
    obtain ⟨h1, h2⟩ := assign_len (env := env) (es := es) h.2
    rw [assign_cons h.1]
    refine ⟨by simp [h1], ?_⟩
    rw [List.findIdx?_cons]
    simp [h2]
mutual
theorem bindT_ex : ∀ (t : Tg) (d : D) (δ : Dl) (k : Dl → Prop), bindT t d δ k → ∃ δ', k δ'
  | .name i, d, δ, k, h => ⟨_, h.2⟩
  | .tup t, .tuple ds, δ, k, h => bindTs_ex t ds δ k (by simpa [bindT] using h)
  | .tup t, .none, δ, k, h => by simp [bindT] at h
  | .tup t, .bool _, δ, k, h => by simp [bindT] at h
  | .tup t, .int _, δ, k, h => by simp [bindT] at h
  | .tup t, .str _, δ, k, h => by simp [bindT] at h
  | .tup t, .list _, δ, k, h => by simp [bindT] at h
  | .tup t, .dict _, δ, k, h => by simp [bindT] at h
  | .nil, _, _, _, h => by simp [bindT] at h
  | .cons _ _, _, _, _, h => by simp [bindT] at h
theorem bindTs_ex : ∀ (t : Tg) (ds : List D) (δ : Dl) (k : Dl → Prop), bindTs t ds δ k → ∃ δ', k δ'
  | .nil, [], δ, k, h => ⟨δ, by simpa [bindTs] using h⟩
  | .nil, _ :: _, _, _, h => by simp [bindTs] at h
  | .cons t u, d :: ds, δ, k, h => by
    simp only [bindTs] at h
    obtain ⟨δ', h'⟩ := bindT_ex t d δ _ h
    exact bindTs_ex u ds δ' k h'
  | .cons _ _, [], _, _, h => by simp [bindTs] at h
  | .name _, _, _, _, h => by simp [bindTs] at h
  | .tup _, _, _, _, h => by simp [bindTs] at h
end
theorem bindTs_length : ∀ {t : Tg} {es : List Expr} {ds : List D} {δ : Dl} {k : Dl → Prop}, chkTs N sc fn t es = true → bindTs t ds δ k → ds.length = es.length
  | .nil, [], [], _, _, _, _ => rfl
  | .nil, [], _ :: _, _, _, _, h => by simp [bindTs] at h
  | .nil, _ :: _, _, _, _, h, _ => by simp [chkTs] at h
  | .cons t u, e :: es, d :: ds, δ, k, hc, h => by
    simp only [bindTs] at h
    obtain ⟨δ', h'⟩ := bindT_ex t d δ _ h
    simp only [chkTs, Bool.and_eq_true] at hc
    simp [bindTs_length hc.2 h']
  | .cons _ _, _ :: _, [], _, _, _, h => by simp [bindTs] at h
  | .cons _ _, [], _, _, _, h, _ => by simp [chkTs] at h
  | .name _, _, _, _, _, h, _ => by simp [chkTs] at h
  | .tup _, _, _, _, _, h, _ => by simp [chkTs] at h
mutual
theorem sTg (hN : X.N = N) (nd : X.N.Nodup) (hsc : X.env.scope = sc) (hfn : X.fn = fn) (hc : X.calm = true) : ∀ (t : Tg) (e : Expr), chkT N sc fn t e = true → PG X e (gT (kwOf X) t)
  | .name i, e, h => by
    cases e with
    | Name y p =>
      simp only [chkT, Bool.and_eq_true, Bool.or_eq_true, decide_eq_true_eq] at h
      obtain ⟨h1, h2⟩ := h
      have hl : Loc X.env.scope y := by
        rw [hsc]
        rcases h2 with h2 | h2
        · exact .inl h2
        · exact .inr h2.1
      have hf : X.fn y = true ∨ X.env.scope.names.lookup y = some .local := by
        rw [hsc, hfn]
        rcases h2 with h2 | h2
        · exact .inr h2
        · exact .inl h2.2
      have P := pg_name (X := X) (i := i) (pos := p) nd (by rw [hN]; exact h1) hl hf
      refine ⟨fun pins s σ H v u Q I r q => P.run pins s σ H v u Q I r ?_⟩
      obtain ⟨Γ, δ, O, d, k, fr, ⟨hi, hk⟩, rp, q⟩ := q
      exact q _ _ hk (fr.set hi rp) fun vs hv => wipe_set_comm σ i (some v) vs (hv i (by simp [tgs]))
    | _ => simp [chkT] at h
  | .tup t, e, h => by
    cases e with
    | Tuple es k p =>
      simp only [chkT] at h
      have P := sTgs hN nd hsc hfn hc t es h
      obtain ⟨l1, l2⟩ := assign_len (env := X.env) (chkTs_stars h)
      have P2 := pg_tup (X := X) (k := k) (pos := p) hc P l1 l2
      refine ⟨fun pins s σ H v u Q I r q => P2.run pins s σ H v u Q I r ?_⟩
      obtain ⟨Γ, δ, O, d, k, fr, hb, rp, q⟩ := q
      cases d with
      | tuple ds =>
        have rp' : ∃ a xs, v = .ref a ∧ SqT (kwOf X) H a xs ∧ Reps (kwOf X) H O xs ds := by
          rcases rp with rp | ⟨a, xs, ds', e1, e2, e3, e4⟩
          · cases rp with
            | tup h1 h2 => exact ⟨_, _, rfl, h1.sq, h2⟩
          · cases e4; exact ⟨a, xs, e1, e2, e3⟩
        obtain ⟨a, xs, rfl, h1, h2⟩ := rp'
        simp only [bindT] at hb
        refine ⟨_, _, rfl, h1, ?_, Γ, δ, O, ds, k, fr, hb, h2, q⟩
        rw [h2.length]
        exact bindTs_length h hb
      | _ => simp [bindT] at hb
    | _ => simp [chkT] at h
  | .nil, e, h => by cases e <;> simp [chkT] at h
  | .cons _ _, e, h => by cases e <;> simp [chkT] at h
theorem sTgs (hN : X.N = N) (nd : X.N.Nodup) (hsc : X.env.scope = sc) (hfn : X.fn = fn) (hc : X.calm = true) : ∀ (t : Tg) (es : List Expr), chkTs N sc fn t es = true → PGs X es (gTs (kwOf X) t)
  | .nil, [], h => by
    refine ⟨fun pins s σ H vs us Q I r q => pgs_nil.run pins s σ H vs us Q I r ?_⟩
    obtain ⟨Γ, δ, O, ds, k, fr, hb, rp, q⟩ := q
    cases ds with
    | nil =>
      simp only [bindTs] at hb
      cases rp
      exact ⟨rfl, q δ σ hb fr fun _ _ => rfl⟩
    | cons _ _ => simp [bindTs] at hb
  | .cons t u, e :: es, h => by
    simp only [chkTs, Bool.and_eq_true] at h
    have P1 := sTg hN nd hsc hfn hc t e h.1.2
    have P2 := sTgs hN nd hsc hfn hc u es h.2
    refine ⟨fun pins s σ H vs us Q I r q => (pgs_cons P1 P2 (by rw [assign_cons h.1.1]; rfl)).run pins s σ H vs us Q I r ?_⟩
    obtain ⟨Γ, δ, O, ds, k, fr, hb, rp, q⟩ := q
    cases ds with
    | nil => simp [bindTs] at hb
    | cons d ds =>
      simp only [bindTs] at hb
      cases rp with
      | cons r1 r2 =>
        refine ⟨_, _, rfl, Γ, δ, O, d, _, fr, hb, TRep.of r1, fun δ' σ' hk fr' wp => ⟨Γ, δ', O, ds, k, fr', hk, r2, fun δ2 σ2 hk2 fr2 wp2 => q δ2 σ2 hk2 fr2 fun vs hv => ?_⟩⟩
        rw [wp2 vs fun i hi => hv i (by simp [tgs, hi]), wp vs fun i hi => hv i (by simp [tgs, hi])]
  | .nil, _ :: _, h => by simp [chkTs] at h
  | .cons _ _, [], h => by simp [chkTs] at h
  | .name _, _, h => by simp [chkTs] at h
  | .tup _, _, h => by simp [chkTs] at h
end
end
end Tk
namespace Tk
open PySem PySem.Spec PyProof.Rows L2
section
variable {X : Cx} {tg e : Expr} {te : TE}
end
section
variable {K : KW} {Γ : Gh} {H : Hp} {O : Addr → Prop} {rd : Bool} {a b : Addr} {vs us : List V} {ds es : List D}
theorem SqO.extM {H1 : Hp} {O1 : Addr → Prop} (x : Ext H H1 O O1) (s : rd = true → SameM Γ H H1) {v : V} (hm : ∀ b, Γ.M b → O b) (h : rd = true ∧ SqO K H Γ.M a vs ∨ rd = false ∧ SqO K H O a vs) : SqL K H1 a vs := by
  rcases h with ⟨e, h⟩ | ⟨_, h⟩
  · rcases h with ⟨h, n⟩ | h
    · rcases h with h | ⟨o, h⟩
      · exact .inl (.inl (s e _ _ h n))
      · exact .inl (.inr ⟨o, s e _ _ h n⟩)
    · exact .inr h
  · exact (h.ext x).sq
theorem Vr.lst (h : Vr K Γ rd H O (.ref a) (.list ds)) : ∃ vs, (rd = true ∧ SqO K H Γ.M a vs ∨ rd = false ∧ SqO K H O a vs) ∧ Reps K H O vs ds := by
  cases rd with
  | true =>
    obtain ⟨b, xs, e, h1, h2⟩ := h
    cases e
    exact ⟨xs, .inl ⟨rfl, h1⟩, h2⟩
  | false =>
    cases h with
    | lst h1 h2 => exact ⟨_, .inr ⟨rfl, h1⟩, h2⟩
theorem Vr.not_list {v : V} {d : D} (h : Vr K Γ rd H O v d) (hd : ∀ ds, d ≠ .list ds) : Rep K H O v d := by
  cases rd with
  | false => exact h
  | true => cases d <;> first | exact h | exact absurd rfl (hd _)
theorem walk_of_list (hm : ∀ b, Γ.M b → O b) (h : rd = true ∧ SqO K H Γ.M a vs ∨ rd = false ∧ SqO K H O a vs) (r : Reps K H O vs ds) : WalkOf K Γ true O H rd (Itl K a) ds := by
  have hl := r.length
  refine ⟨fun H => SqL K H a vs, YAt vs, by rw [← hl]; exact walk_list, fun H1 O1 x s ho => ⟨SqO.extM (v := .non) x s hm h, fun i v H2 hi y => ?_⟩⟩
  obtain ⟨rfl, y⟩ := y
  obtain ⟨d, e, rp⟩ := r.get y
  exact ⟨Same.refl _, d, e, Rep.ext x d v rp⟩
theorem walk_of_tup (h : TupP H a vs) (r : Reps K H O vs ds) : WalkOf K Γ true O H rd (Itt K a) ds := by
  have hl := r.length
  refine ⟨fun H => SqT K H a vs, YAt vs, by rw [← hl]; exact walk_tup, fun H1 O1 x s ho => ⟨(h.ext x).sq, fun i v H2 hi y => ?_⟩⟩
  obtain ⟨rfl, y⟩ := y
  obtain ⟨d, e, rp⟩ := r.get y
  exact ⟨Same.refl _, d, e, Rep.ext x d v rp⟩
theorem walk_of_str {z : Str} : WalkOf K Γ true O H rd (Its z) (chars z) := by
  have hl : (chars z).length = z.cps.size := by simp [chars]
  refine ⟨fun _ => True, _, by rw [hl]; exact walk_str, fun H1 O1 x s ho => ⟨trivial, fun i v H2 hi y => ?_⟩⟩
  obtain ⟨rfl, c, ec, rfl⟩ := y
  refine ⟨Same.refl _, .str ⟨#[c]⟩, ?_, .str _ (by show 1 ≤ sizeLine; rw [sizeLine_eq]; decide)⟩
  unfold chars
  rw [List.getElem?_map, Array.getElem?_toList, ec]
  rfl
theorem walk_of_range {lo hi : Int} : WalkOf K Γ true O H rd (Itr lo (hi - lo).toNat) (rangeD lo hi) := by
  have hl : (rangeD lo hi).length = (hi - lo).toNat := by simp [rangeD]
  refine ⟨fun _ => True, _, by rw [hl]; exact walk_range, fun H1 O1 x s ho => ⟨trivial, fun i v H2 hi' y => ?_⟩⟩
  obtain ⟨rfl, rfl⟩ := y
  refine ⟨Same.refl _, .int (lo + (i : Nat)), ?_, .int _⟩
  rw [hl] at hi'
  unfold rangeD
  rw [List.getElem?_map, List.getElem?_range hi']
  rfl
theorem pair_new {H1 H2 : Hp} {O1 : Addr → Prop} {T : Addr} {v u : V} {d f : D} (hT : H1 T = none) (e : H2 = upd H1 T (.tup [v, u])) (r1 : Rep K H1 O1 v d) (r2 : Rep K H1 O1 u f) : Same H1 H2 ∧ WRp K false H2 O1 (.ref T) (.tuple [d, f]) := by
  subst e
  exact ⟨same_upd hT, T, [v, u], [d, f], rfl, SqT.of upd_same, Reps.same (same_upd hT) (.cons r1 (.cons r2 .nil)), rfl⟩
theorem zip_at {xs ys : List D} {i : Nat} {d f : D} (h1 : xs[i]? = some d) (h2 : ys[i]? = some f) : (zipD xs ys)[i]? = some (.tuple [d, f]) := by
  unfold zipD
  rw [List.getElem?_map]
  have : (xs.zip ys)[i]? = some (d, f) := by rw [List.getElem?_zip_eq_some]; exact ⟨h1, h2⟩
  rw [this]; rfl
theorem walk_of_zip (hm : ∀ b, Γ.M b → O b) (h : rd = true ∧ SqO K H Γ.M a vs ∨ rd = false ∧ SqO K H O a vs) (h' : rd = true ∧ SqO K H Γ.M b us ∨ rd = false ∧ SqO K H O b us) (r : Reps K H O vs ds) (r' : Reps K H O us es) : WalkOf K Γ false O H rd (Itz K a b) (zipD ds es) := by
  have hl : (zipD ds es).length = min vs.length us.length := by simp [zipD, r.length, r'.length]
  refine ⟨fun H => SqL K H a vs ∧ SqL K H b us, YPair (fun i => vs[i]?) (fun i => us[i]?), walk_zip hl, fun H1 O1 x s ho => ⟨⟨SqO.extM (v := .non) x s hm h, SqO.extM (v := .non) x s hm h'⟩, fun i v H2 hi y => ?_⟩⟩
  obtain ⟨T, w, z, rfl, hT, eH, e1, e2⟩ := y
  obtain ⟨d, ed, rd'⟩ := r.get e1
  obtain ⟨f, ef, rf⟩ := r'.get e2
  obtain ⟨s1, s2⟩ := pair_new hT eH (Rep.ext x d w rd') (Rep.ext x f z rf)
  exact ⟨s1, _, zip_at ed ef, s2⟩
theorem walk_zipT' {xs ys : List V} {n : Nat} (hn : n = min xs.length ys.length) : Walk (RZ.ItzT K a b) n (fun H => SqT K H a xs ∧ SqT K H b ys) (YPair (fun i => xs[i]?) (fun i => ys[i]?)) := by
  subst hn
  refine ⟨fun i _ hi q => ?_, fun _ q => ⟨xs, ys, q.1, q.2, by omega⟩, fun i H v H' _ q y => ?_⟩
  · have h1 : i < xs.length := by omega
    have h2 : i < ys.length := by omega
    exact ⟨xs, ys, xs[i], ys[i], q.1, q.2, by simp [h1], by simp [h2]⟩
  · obtain ⟨T, x, z, h1, h2, h3, h4, h5⟩ := y
    exact ⟨T, x, z, h1, h2, h3, h4 xs q.1, h5 ys q.2⟩
theorem walk_of_zipT (h : TupP H a vs) (h' : TupP H b us) (r : Reps K H O vs ds) (r' : Reps K H O us es) : WalkOf K Γ false O H rd (RZ.ItzT K a b) (zipD ds es) := by
  have hl : (zipD ds es).length = min vs.length us.length := by simp [zipD, r.length, r'.length]
  refine ⟨fun H => SqT K H a vs ∧ SqT K H b us, YPair (fun i => vs[i]?) (fun i => us[i]?), walk_zipT' hl, fun H1 O1 x s ho => ⟨⟨(h.ext x).sq, (h'.ext x).sq⟩, fun i v H2 hi y => ?_⟩⟩
  obtain ⟨T, w, z, rfl, hT, eH, e1, e2⟩ := y
  obtain ⟨d, ed, rd'⟩ := r.get e1
  obtain ⟨f, ef, rf⟩ := r'.get e2
  obtain ⟨s1, s2⟩ := pair_new hT eH (Rep.ext x d w rd') (Rep.ext x f z rf)
  exact ⟨s1, _, zip_at ed ef, s2⟩
theorem walk_zs {G : Hp → Addr → List V → Prop} {xs ys : List V} (hl : xs.length = ys.length) : Walk (Zs.ItS G a b) xs.length (fun H => G H a xs ∧ G H b ys) (YPair (fun i => xs[i]?) (fun i => ys[i]?)) := by
  refine ⟨fun i _ hi q => ?_, fun _ q => ⟨xs, ys, q.1, q.2, Nat.le_refl _, by omega⟩, fun i H v H' _ q y => ?_⟩
  · have h2 : i < ys.length := by omega
    exact ⟨xs, ys, xs[i], ys[i], q.1, q.2, by simp [hi], by simp [h2]⟩
  · obtain ⟨T, x, z, h1, h2, h3, h4, h5⟩ := y
    exact ⟨T, x, z, h1, h2, h3, h4 xs q.1, h5 ys q.2⟩
theorem walk_of_zs (hm : ∀ b, Γ.M b → O b) (hle : ds.length = es.length) (h : rd = true ∧ SqO K H Γ.M a vs ∨ rd = false ∧ SqO K H O a vs) (h' : rd = true ∧ SqO K H Γ.M b us ∨ rd = false ∧ SqO K H O b us) (r : Reps K H O vs ds) (r' : Reps K H O us es) : WalkOf K Γ false O H rd (Zs.ItS (SqL K) a b) (zipD ds es) := by
  have hl : (zipD ds es).length = vs.length := by simp [zipD, r.length, hle]
  refine ⟨fun H => SqL K H a vs ∧ SqL K H b us, YPair (fun i => vs[i]?) (fun i => us[i]?), by rw [hl]; exact walk_zs (by rw [r.length, r'.length]; exact hle), fun H1 O1 x s ho => ⟨⟨SqO.extM (v := .non) x s hm h, SqO.extM (v := .non) x s hm h'⟩, fun i v H2 hi y => ?_⟩⟩
  obtain ⟨T, w, z, rfl, hT, eH, e1, e2⟩ := y
  obtain ⟨d, ed, rd'⟩ := r.get e1
  obtain ⟨f, ef, rf⟩ := r'.get e2
  obtain ⟨s1, s2⟩ := pair_new hT eH (Rep.ext x d w rd') (Rep.ext x f z rf)
  exact ⟨s1, _, zip_at ed ef, s2⟩
theorem walk_of_zsT (hle : ds.length = es.length) (h : TupP H a vs) (h' : TupP H b us) (r : Reps K H O vs ds) (r' : Reps K H O us es) : WalkOf K Γ false O H rd (Zs.ItS (SqT K) a b) (zipD ds es) := by
  have hl : (zipD ds es).length = vs.length := by simp [zipD, r.length, hle]
  refine ⟨fun H => SqT K H a vs ∧ SqT K H b us, YPair (fun i => vs[i]?) (fun i => us[i]?), by rw [hl]; exact walk_zs (by rw [r.length, r'.length]; exact hle), fun H1 O1 x s ho => ⟨⟨(h.ext x).sq, (h'.ext x).sq⟩, fun i v H2 hi y => ?_⟩⟩
  obtain ⟨T, w, z, rfl, hT, eH, e1, e2⟩ := y
  obtain ⟨d, ed, rd'⟩ := r.get e1
  obtain ⟨f, ef, rf⟩ := r'.get e2
  obtain ⟨s1, s2⟩ := pair_new hT eH (Rep.ext x d w rd') (Rep.ext x f z rf)
  exact ⟨s1, _, zip_at ed ef, s2⟩
theorem walk_of_enum (hm : ∀ b, Γ.M b → O b) (h : rd = true ∧ SqO K H Γ.M a vs ∨ rd = false ∧ SqO K H O a vs) (r : Reps K H O vs ds) : WalkOf K Γ false O H rd (Ite K a) (enumD ds) := by
  have hl : (enumD ds).length = vs.length := by simp [enumD, r.length]
  refine ⟨fun H => SqL K H a vs, YPair (fun i => some (.int (i : Nat))) (fun i => vs[i]?), by rw [hl]; exact walk_enum, fun H1 O1 x s ho => ⟨SqO.extM (v := .non) x s hm h, fun i v H2 hi y => ?_⟩⟩
  obtain ⟨T, w, z, rfl, hT, eH, e1, e2⟩ := y
  cases e1
  obtain ⟨f, ef, rf⟩ := r.get e2
  obtain ⟨s1, s2⟩ := pair_new hT eH (Rep.int (i : Nat)) (Rep.ext x f z rf)
  refine ⟨s1, _, ?_, s2⟩
  unfold enumD
  rw [List.getElem?_map]
  have : ds.zipIdx[i]? = some (f, i) := by rw [List.getElem?_zipIdx]; simp [ef]
  rw [this]; rfl
end
end Tk
namespace Tk
open PySem PySem.Spec PyProof.Rows L2
section
variable {F : FT} {N : List Str} {C : Cfg} {xr : XRep} {n : Nat}
theorem const_ok {X : Cx} {d : D} {c : Const} {k : Nat} {p : Pos} (h : constIs d c = true) : ∃ v, PE X (.Constant c k p) (tC v) ∧ ∀ K H O, Rep K H O v d := by
  cases d <;> cases c <;> simp [constIs] at h
  · exact ⟨.non, pe_non, fun _ _ _ => .non⟩
  · subst h; exact ⟨.bl _, pe_bl, fun _ _ _ => .bl _⟩
  · subst h; exact ⟨.int _, pe_int, fun _ _ _ => .int _⟩
  · obtain ⟨rfl, h⟩ := h; exact ⟨.str _, pe_str, fun _ _ _ => .str _ h⟩
theorem Here.blk {X : Cx} {sc scope : Scope} {W : WX} (h : Here X F N sc C xr n W) (s : Shared) (H : Hp) (A : Addr) (cl : List (Str × Addr)) (fp : List Addr) :
    Here (X.blk s H scope (compEnvC scope cl A X.env) fp) F N (relS scope sc) C xr n (fun _ _ _ _ => False) where
  site := ⟨by show relS scope X.env.scope = _; rw [h.site.sc], h.site.calm, h.site.units, h.site.guards, h.site.blt⟩
  stat := ⟨h.stat.glob, h.stat.gd, h.stat.xm, h.stat.lens, h.stat.fns⟩
  room := h.room
  hN := h.hN
  nd := h.nd
  tk := takes0
theorem plain_dbg {x : Str} (h : plainName x = true) : (x == ("__debug__" : Str)) = false ∧ (x == ("__classdict__" : Str)) = false := by
  simpa [plainName, Bool.and_eq_true, Bool.not_eq_true'] using h
/-- the new list of a comprehension -/
theorem comp_core {K : KW} {W : WX} {own : List Nat} {t : Tg} {it e ifs : CE} {σ : L2.St} {H : Hp} {Q : VK} {Γ : Gh} {δ : Dl} {O : Addr → Prop} {k : D → Prop} {x : KX} (ht : ∀ i ∈ tgs t, i ∈ own) (hpl : plainIt it = false → ∃ u, t = .tup u) (fr : Fr K Γ δ σ H O)
    (hev : ev C false (.comp own e t it ifs) δ k x) (hx : XOk xr W Γ O σ H x)
    (hq : ∀ acc p vs H', k (.list acc) → Later Γ H H' → H p = none → H' p = some (.lst vs) → Reps K H' (fun b => O b ∨ b = p) vs acc → OTr O H' → ¬ O p → Q (.ref p) H') :
    tLc (tI K xr C W true it) (gT K t) (tT K xr C (fun _ _ _ _ => False) ifs) (tE K xr C (fun _ _ _ _ => False) false e) own σ H Q := by
  rw [ev_comp] at hev
  refine ⟨Γ, δ, O, _, x, fr, hev, fun xs J H1 hk l wk => fun p hp => ?_, hx⟩
  obtain ⟨G, Y, w, hw⟩ := wk
  have f1 : Fr K Γ δ σ H1 O := fr.later l
  have nOp : ¬ O p := fun z => f1.otr p z hp
  have h0p : Γ.H0 p = none := by
    cases q : Γ.H0 p with
    | none => rfl
    | some u =>
      by_cases m : Γ.M p
      · exact absurd hp (f1.gh.wm H1 f1.w p m)
      · rw [f1.same p u q m] at hp; cases hp
  have nslot : ∀ (i : Nat) ds, δ[i]? = some (some (.own ds)) → σ[i]? ≠ some (some (.ref p)) := fun i ds e1 e2 => by
    obtain ⟨v, e3, a, vs, e4, e5, _⟩ := f1.slot i _ e1
    rw [e2] at e3
    cases e3
    cases e4
    rw [hp] at e5; cases e5
  have nslotW : ∀ (δ' : Dl) (σ' : L2.St), True := fun _ _ => trivial
  refine lc_it (Qd := fun H2 => Q (.ref p) H2) w (fun i H2 => ∃ acc vs, loopC (compB C own e t ifs δ) (xs.drop i) acc (fun acc => k (.list acc)) ∧ Fr K Γ δ σ H2 (fun b => O b ∨ b = p) ∧ H2 p = some (.lst vs) ∧ Reps K H2 (fun b => O b ∨ b = p) vs acc ∧ SameM Γ H1 H2) ?_ ?_ ?_ ?_
  · exact ⟨[], [], hk, f1.alloc hp, upd_same, .nil, fun b u h _ => same_upd hp b u h⟩
  · rintro i H2 _ ⟨acc, vs, _, f2, _, _, s2⟩
    exact (hw H2 _ (SameM.ext f1 s2 fun b h => h.elim .inl fun e => .inr (by rw [e]; exact hp)) (fun _ => s2) f2.otr).1
  · rintro i y H2 H3 hi ⟨acc, vs, hl, f2, e2, r2, s2⟩ hy
    obtain ⟨s3, d, ed, rd⟩ := (hw H2 _ (SameM.ext f1 s2 fun b h => h.elim .inl fun e => .inr (by rw [e]; exact hp)) (fun _ => s2) f2.otr).2 i y H3 hi hy
    have hdrop : xs.drop i = d :: xs.drop (i + 1) := by
      obtain ⟨h', e'⟩ := List.getElem?_eq_some_iff.mp ed
      rw [List.drop_eq_getElem_cons h', e']
    rw [hdrop] at hl
    simp only [loopC, compB] at hl
    have l3 : Later Γ H2 H3 := Later.of_same f2.gh f2.w s3
    have f3 : Fr K Γ δ σ H3 (fun b => O b ∨ b = p) := f2.later l3
    refine ⟨Γ, wipeD δ own, _, d, _, f3.wipe own, hl, TRep.ofW rd hpl, fun δ' σ' hk' f4 wp => ⟨?_, ?_⟩⟩
    · rw [wp own ht, wipe_wipe σ own own fun _ h => h]
    · refine ⟨Γ, δ', _, _, NX, f4, hk', fun b H5 hb l5 => ?_, fun _ _ _ _ z => z.elim⟩
      have f5 : Fr K Γ δ σ H5 (fun b => O b ∨ b = p) := f3.later l5
      have nm : ¬ Γ.M p := f1.noM h0p
      have e5 : H5 p = some (.lst vs) := l5.same p _ (s3 p _ e2) nm
      have r5 : Reps K H5 (fun b => O b ∨ b = p) vs acc := Reps.ext (f2.ext (l3.trans l5)) acc vs r2
      have s5 : SameM Γ H1 H5 := fun c u h m => l5.same c u (s3 c u (s2 c u h m)) m
      cases b with
      | false => exact ⟨acc, vs, hb, f5, e5, r5, s5⟩
      | true =>
        refine ⟨Γ, δ', _, _, NX, f4.later l5, hb, fun d' y' H6 hk6 l6 rp => ?_, fun _ _ _ _ z => z.elim⟩
        have f6 : Fr K Γ δ σ H6 (fun b => O b ∨ b = p) := f5.later l6
        have e6 : H6 p = some (.lst vs) := l6.same p _ e5 nm
        have r6 : Reps K H6 (fun b => O b ∨ b = p) vs acc := Reps.ext (f5.ext l6) acc vs r5
        obtain ⟨f7, x7⟩ := f6.write (ys := vs ++ [y']) e6 (.inr rfl) h0p nslot
        refine ⟨vs, e6, by rw [r6.length]; exact hk6.1, acc ++ [d'], vs ++ [y'], hk6.2, f7, upd_same, (Reps.ext x7 acc vs r6).append (.cons (Rep.ext x7 d' y' rp) .nil), fun c u h m => ?_⟩
        rw [upd_ne (fun z => by rw [z, hp] at h; cases h)]
        exact l6.same c u (s5 c u h m) m
  · rintro H2 ⟨acc, vs, hl, f2, e2, r2, s2⟩
    have : xs.drop xs.length = [] := by simp
    rw [this] at hl
    simp only [loopC] at hl
    have hpH : H p = none := by
      cases q : H p with
      | none => rfl
      | some u =>
        by_cases m : Γ.M p
        · exact absurd hp (f1.gh.wm H1 f1.w p m)
        · rw [l.same p u q m] at hp; cases hp
    refine hq acc p vs H2 hl (l.trans ⟨s2, f2.w⟩) hpH e2 r2 (fun b h => f2.otr b (.inl h)) nOp
end
end Tk
namespace Tk
open PySem PySem.Spec PyProof.Rows L2
mutual
theorem bindT_own : ∀ (t : Tg) (d : D) (δ : Dl) (k : Dl → Prop), bindT t d δ k → bindT t d δ (fun δ' => k δ' ∧ ∀ (i : Nat) ds, δ'[i]? = some (some (.own ds)) → δ[i]? = some (some (.own ds)))
  | .name i, d, δ, k, h => by
    simp only [bindT] at h ⊢
    refine ⟨h.1, h.2, fun j ds e => ?_⟩
    by_cases hj : i = j
    · subst hj; rw [List.getElem?_set_self h.1] at e; cases e
    · rwa [List.getElem?_set_ne hj] at e
  | .tup t, .tuple ds, δ, k, h => by
    simp only [bindT] at h ⊢
    exact bindTs_own t ds δ k h
  | .tup t, .none, δ, k, h => by simp [bindT] at h
  | .tup t, .bool _, δ, k, h => by simp [bindT] at h
  | .tup t, .int _, δ, k, h => by simp [bindT] at h
  | .tup t, .str _, δ, k, h => by simp [bindT] at h
  | .tup t, .list _, δ, k, h => by simp [bindT] at h
  | .tup t, .dict _, δ, k, h => by simp [bindT] at h
  | .nil, _, _, _, h => by simp [bindT] at h
  | .cons _ _, _, _, _, h => by simp [bindT] at h
theorem bindTs_own : ∀ (t : Tg) (ds : List D) (δ : Dl) (k : Dl → Prop), bindTs t ds δ k → bindTs t ds δ (fun δ' => k δ' ∧ ∀ (i : Nat) ds, δ'[i]? = some (some (.own ds)) → δ[i]? = some (some (.own ds)))
  | .nil, [], δ, k, h => by
    simp only [bindTs] at h ⊢
    exact ⟨h, fun _ _ e => e⟩
  | .cons t u, d :: ds, δ, k, h => by
    simp only [bindTs] at h ⊢
    have h1 := bindT_own t d δ _ h
    refine bindT_imp t d δ _ _ (fun δ1 ⟨h2, o1⟩ => ?_) h1
    have h3 := bindTs_own u ds δ1 k h2
    exact bindTs_imp u ds δ1 _ _ (fun δ2 ⟨h4, o2⟩ => ⟨h4, fun i es e => o1 i es (o2 i es e)⟩) h3
  | .nil, _ :: _, _, _, h => by simp [bindTs] at h
  | .cons _ _, [], _, _, h => by simp [bindTs] at h
  | .name _, _, _, _, h => by simp [bindTs] at h
  | .tup _, _, _, _, h => by simp [bindTs] at h
theorem bindT_imp : ∀ (t : Tg) (d : D) (δ : Dl) (k k' : Dl → Prop), (∀ δ', k δ' → k' δ') → bindT t d δ k → bindT t d δ k'
  | .name i, d, δ, k, k', hi, h => by
    simp only [bindT] at h ⊢
    exact ⟨h.1, hi _ h.2⟩
  | .tup t, .tuple ds, δ, k, k', hi, h => by
    simp only [bindT] at h ⊢
    exact bindTs_imp t ds δ k k' hi h
  | .tup t, .none, δ, k, k', hi, h => by simp [bindT] at h
  | .tup t, .bool _, δ, k, k', hi, h => by simp [bindT] at h
  | .tup t, .int _, δ, k, k', hi, h => by simp [bindT] at h
  | .tup t, .str _, δ, k, k', hi, h => by simp [bindT] at h
  | .tup t, .list _, δ, k, k', hi, h => by simp [bindT] at h
  | .tup t, .dict _, δ, k, k', hi, h => by simp [bindT] at h
  | .nil, _, _, _, _, _, h => by simp [bindT] at h
  | .cons _ _, _, _, _, _, _, h => by simp [bindT] at h
theorem bindTs_imp : ∀ (t : Tg) (ds : List D) (δ : Dl) (k k' : Dl → Prop), (∀ δ', k δ' → k' δ') → bindTs t ds δ k → bindTs t ds δ k'
  | .nil, [], δ, k, k', hi, h => by
    simp only [bindTs] at h ⊢
    exact hi _ h
  | .cons t u, d :: ds, δ, k, k', hi, h => by
    simp only [bindTs] at h ⊢
    exact bindT_imp t d δ _ _ (fun δ1 h1 => bindTs_imp u ds δ1 k k' hi h1) h
  | .nil, _ :: _, _, _, _, _, h => by simp [bindTs] at h
  | .cons _ _, [], _, _, _, _, h => by simp [bindTs] at h
  | .name _, _, _, _, _, _, h => by simp [bindTs] at h
  | .tup _, _, _, _, _, _, h => by simp [bindTs] at h
end
def comp2B (C : Cfg) (own own2 : List Nat) (e : CE) (t : Tg) (t2 : Tg) (it2 ifs : CE) (δ : Dl) : D → List D → (List D → Prop) → Prop := fun y acc k' => bindT t y (wipeD δ own) fun δ1 => evI C false it2 δ1 (fun ys => loopC (compB C own2 e t2 ifs δ1) ys acc k') NX
theorem ev_comp2 {C : Cfg} {rd : Bool} {own own2 : List Nat} {e it it2 ifs : CE} {t t2 : Tg} {δ : Dl} {k : D → Prop} {x : KX} :
    ev C rd (.comp2 own own2 e t it t2 it2 ifs) δ k x = evI C true it δ (fun xs => loopC (comp2B C own own2 e t t2 it2 ifs δ) xs [] fun acc => k (.list acc)) x := by
  simp only [ev]; rfl
section
variable {F : FT} {N : List Str} {C : Cfg} {xr : XRep} {n : Nat}
theorem drop_cons {xs : List D} {i : Nat} {d : D} (ed : xs[i]? = some d) : xs.drop i = d :: xs.drop (i + 1) := by
  obtain ⟨h', e'⟩ := List.getElem?_eq_some_iff.mp ed
  rw [List.drop_eq_getElem_cons h', e']
theorem comp2_core {K : KW} {W : WX} {own own2 : List Nat} {t t2 : Tg} {it it2 e ifs : CE} {σ : L2.St} {H : Hp} {Q : VK} {Γ : Gh} {δ : Dl} {O : Addr → Prop} {k : D → Prop} {x : KX} (ht : ∀ i ∈ tgs t, i ∈ own) (hpl : plainIt it = false → ∃ u, t = .tup u)
    (ht2 : ∀ i ∈ tgs t2, i ∈ own2) (hpl2 : plainIt it2 = false → ∃ u, t2 = .tup u) (fr : Fr K Γ δ σ H O)
    (hev : ev C false (.comp2 own own2 e t it t2 it2 ifs) δ k x) (hx : XOk xr W Γ O σ H x)
    (hq : ∀ acc p vs H', k (.list acc) → Later Γ H H' → H p = none → H' p = some (.lst vs) → Reps K H' (fun b => O b ∨ b = p) vs acc → OTr O H' → ¬ O p → Q (.ref p) H') :
    tLc2 (tI K xr C W true it) (gT K t) tYes (tI K xr C (fun _ _ _ _ => False) false it2) (gT K t2) (tT K xr C (fun _ _ _ _ => False) ifs) (tE K xr C (fun _ _ _ _ => False) false e) own own2 σ H Q := by
  rw [ev_comp2] at hev
  refine ⟨Γ, δ, O, _, x, fr, hev, fun xs J H1 hk l wk => fun p hp => ?_, hx⟩
  obtain ⟨G, Y, w, hw⟩ := wk
  have f1 : Fr K Γ δ σ H1 O := fr.later l
  have nOp : ¬ O p := fun z => f1.otr p z hp
  have h0p : Γ.H0 p = none := by
    cases q : Γ.H0 p with
    | none => rfl
    | some u =>
      by_cases m : Γ.M p
      · exact absurd hp (f1.gh.wm H1 f1.w p m)
      · rw [f1.same p u q m] at hp; cases hp
  have nm : ¬ Γ.M p := f1.noM h0p
  have nslot : ∀ (i : Nat) ds, δ[i]? = some (some (.own ds)) → σ[i]? ≠ some (some (.ref p)) := fun i ds e1 e2 => by
    obtain ⟨v, e3, a, vs, e4, e5, _⟩ := f1.slot i _ e1
    rw [e2] at e3
    cases e3
    cases e4
    rw [hp] at e5; cases e5
  refine ⟨fun i m H2 => m = xs.length - i ∧ i ≤ xs.length ∧ ∃ acc vs, loopC (comp2B C own own2 e t t2 it2 ifs δ) (xs.drop i) acc (fun acc => k (.list acc)) ∧ Fr K Γ δ σ H2 (fun b => O b ∨ b = p) ∧ H2 p = some (.lst vs) ∧ Reps K H2 (fun b => O b ∨ b = p) vs acc ∧ SameM Γ H1 H2,
    ⟨xs.length, by simp, Nat.zero_le _, [], [], hk, f1.alloc hp, upd_same, .nil, fun b u h _ => same_upd hp b u h⟩, ?_⟩
  rintro i m H2 ⟨rfl, hi, acc, vs, hl, f2, e2, r2, s2⟩
  obtain ⟨g2, y2⟩ := hw H2 _ (SameM.ext f1 s2 fun b h => h.elim .inl fun e => .inr (by rw [e]; exact hp)) (fun _ => s2) f2.otr
  by_cases hlt : i < xs.length
  · refine .inr ⟨w.goes i H2 hlt g2, _, fun H' h => ⟨_, ?_, rfl, hlt, h⟩, fun y H3 hy => ?_⟩
    · omega
    obtain ⟨s3, d, ed, rd⟩ := y2 i y H3 hlt (w.yields i H2 y H3 hlt g2 hy)
    rw [drop_cons ed] at hl
    simp only [loopC, comp2B] at hl
    have l3 : Later Γ H2 H3 := Later.of_same f2.gh f2.w s3
    have f3 : Fr K Γ δ σ H3 (fun b => O b ∨ b = p) := f2.later l3
    refine ⟨Γ, wipeD δ own, _, d, _, f3.wipe own, bindT_own _ _ _ _ hl, TRep.ofW rd hpl, fun δ' σ' hk' f4 wp => ⟨?_, ?_⟩⟩
    · rw [wp own ht, wipe_wipe σ own own fun _ h => h]
    obtain ⟨hk', own'⟩ := hk'
    have wp' : wipe σ' own = wipe σ own := by rw [wp own ht, wipe_wipe σ own own fun _ h => h]
    have nslot' : ∀ (i : Nat) ds, δ'[i]? = some (some (.own ds)) → σ'[i]? ≠ some (some (.ref p)) := fun i ds e1 e2 => by
      obtain ⟨h1, h2⟩ := wipeD_some (own' i ds e1)
      refine nslot i ds h1 ?_
      rw [← wipe_get h2, ← wp', wipe_get h2]
      exact e2
    unfold tYes
    dsimp only
    rw [if_pos rfl]
    refine ⟨Γ, δ', _, _, NX, f4, hk', fun ys J1 H4 hk4 l4 wk4 => ?_, fun _ _ _ _ z => z.elim⟩
    obtain ⟨G1, Y1, w1, hw1⟩ := wk4
    have e4 : H4 p = some (.lst vs) := l4.same p _ (s3 p _ e2) nm
    have r4 : Reps K H4 (fun b => O b ∨ b = p) vs acc := Reps.ext (f2.ext (l3.trans l4)) acc vs r2
    have s4 : SameM Γ H1 H4 := fun c u h m => l4.same c u (s3 c u (s2 c u h m)) m
    have fO : Fr K Γ δ σ H4 (fun b => O b ∨ b = p) := f3.later l4
    have fI : Fr K Γ δ' σ' H4 (fun b => O b ∨ b = p) := f4.later l4
    -- only the list at p is changed since the inner walk began
    refine ⟨fun j m H5 => m = ys.length - j ∧ j ≤ ys.length ∧ ∃ acc vs, loopC (compB C own2 e t2 ifs δ') (ys.drop j) acc (fun acc => loopC (comp2B C own own2 e t t2 it2 ifs δ) (xs.drop (i + 1)) acc fun acc => k (.list acc)) ∧ Fr K Γ δ σ H5 (fun b => O b ∨ b = p) ∧ Fr K Γ δ' σ' H5 (fun b => O b ∨ b = p) ∧ H5 p = some (.lst vs) ∧ Reps K H5 (fun b => O b ∨ b = p) vs acc ∧ SameM Γ H1 H5 ∧ ∀ b u, H4 b = some u → ¬ Γ.M b → b ≠ p → H5 b = some u,
      ⟨ys.length, by simp, Nat.zero_le _, acc, vs, hk4, fO, fI, e4, r4, s4, fun b u h _ _ => h⟩, ?_⟩
    rintro j m H5 ⟨rfl, hj, acc5, vs5, hl5, fO5, fI5, e5, r5, s5, k5⟩
    have x5 : Ext H4 H5 (fun b => O b ∨ b = p) (fun b => O b ∨ b = p) := by
      refine ⟨fun b u h n => k5 b u h (fun z => n (fI.m b z)) fun z => n (.inr z), fun b z => .inl z, fun b zs h => k5 b _ h (fun z => fI.gh.wt H4 H4 fI.w fI.w b z zs h) fun z => ?_, fun b o u h => k5 b _ h (fun z => fI.gh.wf H4 b fI.w z o u h) fun z => ?_⟩
      · rw [z, e4] at h; cases h
      · rw [z, e4] at h; cases h
    obtain ⟨g5, y5⟩ := hw1 H5 _ x5 (fun z => by cases z) fI5.otr
    by_cases hjl : j < ys.length
    · refine .inr ⟨w1.goes j H5 hjl g5, _, fun H' h => ⟨_, ?_, rfl, hjl, h⟩, fun y' H6 hy' => ?_⟩
      · omega
      obtain ⟨s6, d6, ed6, rd6⟩ := y5 j y' H6 hjl (w1.yields j H5 y' H6 hjl g5 hy')
      rw [drop_cons ed6] at hl5
      simp only [loopC, compB] at hl5
      have l6 : Later Γ H5 H6 := Later.of_same fI5.gh fI5.w s6
      have fO6 := fO5.later l6
      have fI6 := fI5.later l6
      refine ⟨Γ, wipeD δ' own2, _, d6, _, fI6.wipe own2, hl5, TRep.ofW rd6 hpl2, fun δ2 σ2 hk2 f7 wp2 => ⟨?_, ?_⟩⟩
      · rw [wp2 own2 ht2, wipe_wipe σ' own2 own2 fun _ h => h]
      refine ⟨Γ, δ2, _, _, NX, f7, hk2, fun b H7 hb l7 => ?_, fun _ _ _ _ z => z.elim⟩
      have e7 : H7 p = some (.lst vs5) := l7.same p _ (s6 p _ e5) nm
      have r7 : Reps K H7 (fun b => O b ∨ b = p) vs5 acc5 := Reps.ext (fI5.ext (l6.trans l7)) acc5 vs5 r5
      have s7 : SameM Γ H1 H7 := fun c u h m => l7.same c u (s6 c u (s5 c u h m)) m
      have k7 : ∀ b u, H4 b = some u → ¬ Γ.M b → b ≠ p → H7 b = some u := fun c u h m n => l7.same c u (s6 c u (k5 c u h m n)) m
      cases b with
      | false => exact ⟨acc5, vs5, hb, fO6.later l7, fI6.later l7, e7, r7, s7, k7⟩
      | true =>
        refine ⟨Γ, δ2, _, _, NX, f7.later l7, hb, fun d' y2' H8 hk8 l8 rp => ?_, fun _ _ _ _ z => z.elim⟩
        have fO8 := (fO6.later l7).later l8
        have fI8 := (fI6.later l7).later l8
        have e8 : H8 p = some (.lst vs5) := l8.same p _ e7 nm
        have r8 : Reps K H8 (fun b => O b ∨ b = p) vs5 acc5 := Reps.ext ((fI6.later l7).ext l8) acc5 vs5 r7
        obtain ⟨fO9, x9⟩ := fO8.write (ys := vs5 ++ [y2']) e8 (.inr rfl) h0p nslot
        obtain ⟨fI9, _⟩ := fI8.write (ys := vs5 ++ [y2']) e8 (.inr rfl) h0p nslot'
        refine ⟨vs5, e8, by rw [r8.length]; exact hk8.1, acc5 ++ [d'], vs5 ++ [y2'], hk8.2, fO9, fI9, upd_same, (Reps.ext x9 acc5 vs5 r8).append (.cons (Rep.ext x9 d' y2' rp) .nil), fun c u h m => ?_, fun c u h m n => ?_⟩
        · rw [upd_ne (fun z => by rw [z, hp] at h; cases h)]
          exact l8.same c u (s7 c u h m) m
        · rw [upd_ne n]
          exact l8.same c u (k7 c u h m n) m
    · have ej : j = ys.length := by omega
      subst ej
      have ex : ys.drop ys.length = [] := by simp
      rw [ex] at hl5
      simp only [loopC] at hl5
      exact .inl ⟨w1.stops H5 g5, acc5, vs5, hl5, fO5, e5, r5, s5⟩
  · have e : i = xs.length := by omega
    subst e
    have ex : xs.drop xs.length = [] := by simp
    rw [ex] at hl
    simp only [loopC] at hl
    have hpH : H p = none := by
      cases q : H p with
      | none => rfl
      | some u =>
        by_cases m : Γ.M p
        · exact absurd hp (f1.gh.wm H1 f1.w p m)
        · rw [l.same p u q m] at hp; cases hp
    exact .inl ⟨w.stops H2 g2, hq acc p vs H2 hl (l.trans ⟨s2, f2.w⟩) hpH e2 r2 (fun b h => f2.otr b (.inl h)) nOp⟩
/-! displays of dicts -/
def trsOf (K : KW) (xr : XRep) (C : Cfg) (W : WX) : List Str → CE → List (TE × TE)
  | k :: ks, .cons a r => (tC (.str k), tE K xr C W false a) :: trsOf K xr C W ks r
  | _, _ => []
def lenR : CE → Option Nat
  | .nil => some 0
  | .cons _ r => (lenR r).map (· + 1)
  | _ => none
theorem pairs_read {K : KW} {W : WX} {Γ : Gh} {δ : Dl} {σ : L2.St} {O : Addr → Prop} {x : KX} : ∀ (ks : List Str) (r : CE) (H : Hp) (kk : List D → Prop) (QQ : List (V × V) → Hp → Prop), lenR r = some ks.length → Fr K Γ δ σ H O → evV C r δ kk x → XOk xr W Γ O σ H x →
    (∀ ds vs H', kk ds → Later Γ H H' → Reps K H' O vs ds → QQ ((ks.map V.str).zip vs) H') → tPairs (trsOf K xr C W ks r) σ H QQ
  | [], r, H, kk, QQ, hl, fr, hev, hx, q => by
    cases r <;> first | (simp [lenR] at hl; done) | skip
    simp only [evV] at hev
    exact q [] [] H hev (.refl fr.w) .nil
  | k :: ks, r, H, kk, QQ, hl, fr, hev, hx, q => by
    cases r <;> first | (simp [lenR] at hl; done) | skip
    rename_i a r
    simp only [lenR, Option.map_eq_some_iff, List.length_cons] at hl
    obtain ⟨n, hn, e⟩ := hl
    have hn' : lenR r = some ks.length := by rw [hn]; congr 1; omega
    simp only [evV] at hev
    refine ⟨Γ, δ, O, _, x, fr, hev, fun d v H2 hk l rp => ?_, hx⟩
    have f2 := fr.later l
    refine pairs_read ks r H2 _ _ hn' f2 hk (hx.later l) fun ds vs H3 hk3 l3 rs => ?_
    exact q (d :: ds) (v :: vs) H3 hk3 (l.trans l3) (.cons (Rep.ext (f2.ext l3) d v rp) rs)
theorem chkA_len {sc : Scope} : ∀ {r : CE} {es : List Expr}, chkA F N r sc es = true → lenR r = some es.length
  | .nil, [], _ => rfl
  | .cons a r, e :: es, h => by
    simp only [chkA, Bool.and_eq_true] at h
    simp [lenR, chkA_len h.2]
  | .nil, _ :: _, h => by simp [chkA] at h
  | .cons _ _, [], h => by simp [chkA] at h
  | .const _, _, h => by simp [chkA] at h
  | .var _, _, h => by simp [chkA] at h
  | .glob _, _, h => by simp [chkA] at h
  | .tup _, _, h => by simp [chkA] at h
  | .lst _, _, h => by simp [chkA] at h
  | .op1 _ _, _, h => by simp [chkA] at h
  | .op2 _ _ _, _, h => by simp [chkA] at h
  | .slc _ _ _, _, h => by simp [chkA] at h
  | .nopart, _, h => by simp [chkA] at h
  | .chain _ _ _ _ _, _, h => by simp [chkA] at h
  | .and_ _ _, _, h => by simp [chkA] at h
  | .or_ _ _, _, h => by simp [chkA] at h
  | .not_ _, _, h => by simp [chkA] at h
  | .ifx _ _ _, _, h => by simp [chkA] at h
  | .call _ _, _, h => by simp [chkA] at h
  | .comp _ _ _ _ _, _, h => by simp [chkA] at h
  | .iter _, _, h => by simp [chkA] at h
  | .range1 _, _, h => by simp [chkA] at h
  | .range2 _ _, _, h => by simp [chkA] at h
  | .zip2 _ _, _, h => by simp [chkA] at h
  | .zip2s _ _, _, h => by simp [chkA] at h
  | .enum _, _, h => by simp [chkA] at h
  | .dset _ _, _, h => by simp [chkA] at h
  | .comp2 _ _ _ _ _ _ _ _, _, h => by simp [chkA] at h
  | .disp _ _, _, h => by simp [chkA] at h
  | .getG _ _, _, h => by simp [chkA] at h
  | .inG _ _ _, _, h => by simp [chkA] at h
theorem keysAre_len : ∀ {ks : List Str} {keys : List (Option Expr)}, keysAre ks keys = true → keys.length = ks.length ∧ keys.all (·.isSome) = true
  | [], [], _ => ⟨rfl, rfl⟩
  | k :: ks, some (.Constant (.str x) a b) :: es, h => by
    simp only [keysAre, Bool.and_eq_true] at h
    obtain ⟨h1, h2⟩ := keysAre_len h.2
    exact ⟨by simp [h1], by simp [h2]⟩
  | [], _ :: _, h => by simp [keysAre] at h
  | _ :: _, [], h => by simp [keysAre] at h
  | _ :: _, none :: _, h => by simp [keysAre] at h
  | _ :: _, some e :: _, h => by
    cases e <;> first | (simp [keysAre] at h; done) | skip
    rename_i c _ _
    cases c <;> first | (simp [keysAre] at h; done) | skip
    simp only [keysAre, Bool.and_eq_true] at h
    obtain ⟨h1, h2⟩ := keysAre_len h.2
    exact ⟨by simp [h1], by simp [h2]⟩
theorem keys_zip : ∀ (ks : List Str) (vs : List V), (ks.map V.str).zip vs = ((ks.map (Sum.inr : Str → Key)).zip vs).map fun kv => (kV kv.1, kv.2)
  | [], _ => by simp
  | _ :: _, [] => by simp
  | k :: ks, v :: vs => by
    simp only [List.map_cons, List.zip_cons_cons, List.cons.injEq]
    exact ⟨rfl, keys_zip ks vs⟩
/-- the reading of a display -/
theorem disp_read {K : KW} {W : WX} {Γ : Gh} {δ : Dl} {σ : L2.St} {O : Addr → Prop} {x : KX} {ks : List Str} {r : CE} {H : Hp} {k : D → Prop} {Q : VK}
    (xm : ∀ H (O O1 : Addr → Prop) e cls dd, (∀ b, O b → O1 b) → xr H O1 e cls dd → xr H O e cls dd) (hl : lenR r = some ks.length) (fr : Fr K Γ δ σ H O)
    (hev : evV C r δ (fun ds => ds.length = ks.length ∧ ks.length ≤ 15 ∧ ks.Nodup ∧ k (dictD (ks.zip ds))) x) (hx : XOk xr W Γ O σ H x)
    (hq : ∀ d v H', k d → Later Γ H H' → Rep K H' O v d → Q v H') : tDisp (trsOf K xr C W ks r) σ H Q := by
  intro p hp
  have f1 : Fr K Γ δ σ (upd H p (.dK [])) (fun b => O b ∨ b = p) := fr.alloc hp
  have s1 : Same H (upd H p (.dK [])) := same_upd hp
  have l1 : Later Γ H (upd H p (.dK [])) := Later.of_same fr.gh fr.w s1
  have nO : ¬ O p := fun z => fr.otr p z hp
  have nM : ¬ Γ.M p := fun z => nO (fr.m p z)
  refine pairs_read ks r _ _ _ hl f1 hev (fun e cls dd H' a b c => hx e cls dd H' a (l1.trans b) (xm H' O _ e cls dd (fun b z => .inl z) c)) fun ds vs H2 ⟨h1, h2, h3, h4⟩ l2 rs => ?_
  have e2 : H2 p = some (.dK []) := l2.same p _ upd_same nM
  have lv : vs.length = ks.length := by rw [rs.length]; exact h1
  refine ⟨e2, ((ks.map Sum.inr).zip vs), ?_, ?_, ?_⟩
  · exact keys_zip ks vs
  · simp; omega
  · have em : mergeK [] (((ks.map Sum.inr).zip vs : List (Key × V))) = (ks.map Sum.inr).zip vs := by
      rw [mergeK_nodup _ []]
      · rfl
      · rw [List.nil_append, List.map_fst_zip (by simp [lv])]
        exact List.Pairwise.map _ (fun a b h z => h (Sum.inr.inj z)) h3
    rw [em]
    have x3 : Ext H2 (upd H2 p (.dK ((ks.map Sum.inr).zip vs))) (fun b => O b ∨ b = p) O := by
      refine ⟨fun b u h n => ?_, fun b z => .inl (.inl z), fun b zs h => ?_, fun b o u h => ?_⟩
      · rw [upd_ne (fun z => n (.inr z))]; exact h
      · rw [upd_ne (fun z => by rw [z, e2] at h; cases h)]; exact h
      · rw [upd_ne (fun z => by rw [z, e2] at h; cases h)]; exact h
    have m1 : (ks.zip ds).map (·.1) = ks := List.map_fst_zip (by omega)
    have m2 : (ks.zip ds).map (·.2) = ds := List.map_snd_zip (by omega)
    have rk := repsK_of (ps := ks.zip ds) (ys := vs) (by rw [m2]; exact rs)
    have mk : ((ks.zip ds).map fun p => (Sum.inr p.1 : Key)) = ks.map Sum.inr := by
      rw [show ((ks.zip ds).map fun p => (Sum.inr p.1 : Key)) = ((ks.zip ds).map (·.1)).map Sum.inr by simp, m1]
    rw [mk] at rk
    refine hq _ _ _ h4 ⟨fun b u h m => ?_, ?_⟩ (.dct upd_same nO (RepsK.ext x3 _ _ rk))
    · have nb : b ≠ p := fun z => by rw [z, hp] at h; cases h
      rw [upd_ne nb]
      exact l2.same b u (by rw [upd_ne nb]; exact h) m
    · exact fr.gh.ws H2 _ (fun b m => upd_ne (fun z => nM (z ▸ m))) l2.w
end
end Tk
namespace Tk
open PySem PySem.Spec PyProof.Rows L2
section
variable {F : FT} {N : List Str} {C : Cfg} {xr : XRep} {n : Nat}
/-- from values of the parts to a value -/
theorem fin_same {K : KW} {Γ : Gh} {δ : Dl} {σ : L2.St} {H H1 : Hp} {O : Addr → Prop} {rd : Bool} {k : D → Prop} {Q : VK} {r : D} (fr : Fr K Γ δ σ H O) (l : Later Γ H H1) (hk : k r)
    (q : ∀ d v H', k d → Later Γ H H' → Vr K Γ rd H' O v d → Q v H') : ∀ v' H', Same H1 H' → Rep K H' O v' r → Q v' H' :=
  fun v' H' s rp => q r v' H' hk (l.trans (Later.of_same fr.gh l.w s)) (Vr.of fr.m rp)
theorem op1T_ok {X : Cx} {sc : Scope} {e ea : Expr} {ta : TE} (S : Site X sc) {o : Op1} (h : chkOp1 sc o e = some ea) (ha : PE X ea ta) (ma : Mono ta) : PT X e (tTest (tUn (R1 (kwOf X) o) ta)) := by
  by_cases hp : plainTest e = true
  · exact pt_val (op1_ok S h ha ma) (test_eq hp)
  · unfold chkOp1 at h
    split at h
    · cases h
      refine ⟨fun pins s σ H Q I h => ?_⟩
      refine wpAny_isTrue_Compare1 (thn (ha.run pins s σ H _ I h) fun v s1 ⟨x, H1, I1, r1, Γ, O, d, r, ho, hr, hs, q⟩ => ?_) rfl
      simp only [sem1, Option.some.injEq] at hs
      subst hs
      refine Constant_none (is_none_gen ?_)
      obtain ⟨b, e1, q⟩ := q (.bl _) H1 (Same.refl _) (.bl _)
      cases e1
      have e2 : (v == Value.none) = isNoneD d := by rw [r1.none_iff, hr.isN]
      rw [e2]
      exact wpAny_truthy_bool ⟨H1, I1, q⟩
    · cases h
      refine ⟨fun pins s σ H Q I h => ?_⟩
      refine wpAny_isTrue_Compare1 (thn (ha.run pins s σ H _ I h) fun v s1 ⟨x, H1, I1, r1, Γ, O, d, r, ho, hr, hs, q⟩ => ?_) rfl
      simp only [sem1, Option.some.injEq] at hs
      subst hs
      refine Constant_none (isnot_none_gen ?_)
      obtain ⟨b, e1, q⟩ := q (.bl _) H1 (Same.refl _) (.bl _)
      cases e1
      have e2 : (!(v == Value.none)) = !isNoneD d := by rw [r1.none_iff, hr.isN]
      rw [e2]
      exact wpAny_truthy_bool ⟨H1, I1, q⟩
    all_goals first | (cases h; done) | (exact absurd rfl hp) | (split at h <;> first | (cases h; done) | (exact absurd rfl hp))
theorem op2T_ok {X : Cx} {sc : Scope} {e ea eb : Expr} {ta tb : TE} (S : Site X sc) {o : Op2} (h : chkOp2 sc o e = some (ea, eb)) (ha : PE X ea ta) (hb : PE X eb tb) (ma : Mono ta) (mb : Mono tb) : PT X e (tTest (tOp2 (kwOf X) o ta tb)) := by
  by_cases hp : plainTest e = true
  · exact pt_val (op2_ok S h ha hb ma mb) (test_eq hp)
  · have cmp : ∀ {op : CmpOp} {a b : Expr} {pos : Pos}, cmpOf o = some op → e = .Compare a [op] [b] pos → (if notSet b = true then some (a, b) else none) = some (ea, eb) → PT X e (tTest (tOp2 (kwOf X) o ta tb)) := fun {op a b pos} hc he h => by
      split at h
      · rename_i hn
        cases h
        subst he
        exact PT.imp (pt_cmpR (pos := pos) (cmp_ok S hc) ha hb (marks_ok hn)) fun σ H Q q => ma σ H _ _ (fun v H1 z => z.2) q
      · cases h
    unfold chkOp2 at h
    split at h
    all_goals first | (exact absurd rfl hp) | (exact cmp rfl rfl h) | (cases h; done)
theorem inv_keys {k : Str} {ks : List Str} {key : Option Expr} {keys : List (Option Expr)} (h : keysAre (k :: ks) (key :: keys) = true) : ∃ c p, key = some (.Constant (.str k) c p) ∧ k.length ≤ sizeLine ∧ keysAre ks keys = true := by
  cases key with
  | none => simp [keysAre] at h
  | some e =>
    cases e <;> first | (simp [keysAre] at h; done) | skip
    rename_i c _ _
    cases c <;> first | (simp [keysAre] at h; done) | skip
    simp only [keysAre, Bool.and_eq_true, decide_eq_true_eq] at h
    obtain ⟨⟨rfl, h1⟩, h2⟩ := h
    exact ⟨_, _, rfl, h1, h2⟩
theorem inv_inG {neg : Bool} {a : CE} {y : Str} {sc : Scope} {e : Expr} (h : chkE F N (.inG neg a y) sc e = true) : ∃ ea op z pz p, e = .Compare ea [op] [.Name z pz] p ∧ op = (if neg then .NotIn else .In) ∧ z = y ∧ gl sc z = true ∧ plainName z = true ∧ chkE F N a sc ea = true := by
  unfold chkE at h
  split at h
  all_goals first | contradiction | skip
  all_goals rename_i hh
  all_goals first | (cases hh; done) | skip
  cases hh
  simp only [Bool.and_eq_true, decide_eq_true_eq] at h
  obtain ⟨⟨⟨⟨h0, h1⟩, h2⟩, h3⟩, h4⟩ := h
  exact ⟨_, _, _, _, _, rfl, h0, h1, h2, h3, h4⟩
theorem inv_dset {i : Nat} {a : CE} {sc : Scope} {e : Expr} (h : chkE F N (.dset i a) sc e = true) : ∃ x p1 ck p2 p3 iter scope pos, e = .DictComp (.Name x p1) (.Constant (.bool true) ck p2) [⟨.Name x p3, iter, [], 0⟩] scope pos ∧ N[i]? = some x ∧ blkC N sc scope [(x, i)] = true ∧ notSet iter = true ∧ chkE F N a sc iter = true
    ∧ (((relS scope sc).names.lookup x = some .local) ∨ (((relS scope sc).names.lookup x = some .cell) ∧ (scope.names.lookup x == some .cell) = true)) ∧ vis (relS scope sc) x = true ∧ plainName x = true := by
  unfold chkE at h
  split at h
  all_goals first | contradiction | skip
  all_goals rename_i hh
  all_goals first | (cases hh; done) | skip
  cases hh
  simp only [Bool.and_eq_true, Bool.or_eq_true, decide_eq_true_eq] at h
  obtain ⟨⟨⟨⟨⟨⟨⟨⟨rfl, rfl⟩, h1⟩, h2⟩, h3⟩, h4⟩, h5⟩, h6⟩, h7⟩ := h
  exact ⟨_, _, _, _, _, _, _, _, rfl, h1, h2, h3, h4, h5, h6, h7⟩
theorem inv_comp {own : List Nat} {e it ifs : CE} {t : Tg} {sc : Scope} {elt : Expr} {gens : List Comprehension} {scope : Scope} {p : Pos} (h : chkE F N (.comp own e t it ifs) sc (.ListComp elt gens scope p) = true) : ∃ g, gens = [g] := by
  unfold chkE at h
  split at h
  all_goals first | contradiction | skip
  all_goals simp_all
theorem evA_cons {a r : CE} {δ : Dl} {k : List Slot → Prop} {x : KX} (ha : ∀ i, a ≠ .var i) : evA C (.cons a r) δ k x = ev C false a δ (fun d => evA C r δ (fun ss => k (.val d :: ss)) x) x := by
  rw [evA]
  exact ha
theorem inv_comp2 {own own2 : List Nat} {e it ifs it2 : CE} {t t2 : Tg} {sc : Scope} {elt : Expr} {gens : List Comprehension} {scope : Scope} {p : Pos} (h : chkE F N (.comp2 own own2 e t it t2 it2 ifs) sc (.ListComp elt gens scope p) = true) : ∃ g g2, gens = [g, g2] := by
  unfold chkE at h
  split at h
  all_goals first | contradiction | skip
  all_goals simp_all
theorem inv_zs {a b : CE} {sc : Scope} {tg e : Expr} (h : chkI F N (.zip2s a b) sc tg e = true) : ∃ p ea eb ck cp kp pos, e = .Call (.Name "zip" p) [ea, eb] [⟨some (Str.ofString "strict"), .Constant (.bool true) ck cp, kp⟩] pos ∧ isTup tg = true ∧ gl sc "zip" = true ∧ notStar ea = true ∧ notStar eb = true ∧ chkE F N a sc ea = true ∧ chkE F N b sc eb = true := by
  unfold chkI at h
  split at h
  all_goals first | contradiction | skip
  all_goals rename_i hh
  all_goals first | (cases hh; done) | skip
  cases hh
  simp only [Bool.and_eq_true, decide_eq_true_eq] at h
  obtain ⟨⟨⟨⟨⟨⟨⟨⟨rfl, h1⟩, rfl⟩, rfl⟩, h2⟩, h3⟩, h4⟩, h5⟩, h6⟩ := h
  exact ⟨_, _, _, _, _, _, _, rfl, h1, h2, h3, h4, h5, h6⟩
theorem sV {X : Cx} {sc : Scope} {W : WX} (h : Here X F N sc C xr n W) (i : Nat) (e : Expr) (hc : chkE F N (.var i) sc e = true) : PE X e (tVar i) := by
  cases e with
  | Name y p =>
    simp only [chkE, Bool.and_eq_true, decide_eq_true_eq] at hc
    obtain ⟨⟨h1, h2⟩, h3⟩ := hc
    have hv : Vis X.env.scope y := by
      rw [h.site.sc]
      unfold vis at h2
      split at h2
      · exact .inl (by assumption)
      · exact .inr (.inl (by assumption))
      · exact .inr (.inr (by assumption))
      · cases h2
    exact pe_var (i := i) (pos := p) (by rw [h.hN]; exact h1) hv (plain_dbg h3).1 (plain_dbg h3).2
  | _ => simp [chkE] at hc
theorem plain_tup {F : FT} {N : List Str} {sc sc' : Scope} {fn : Str → Bool} {it : CE} {t : Tg} {tg iter : Expr} (h1 : chkI F N it sc tg iter = true) (h2 : chkT N sc' fn t tg = true) (hp : plainIt it = false) : ∃ u, t = .tup u := by
  have h0 : isTup tg = true := by
    cases it <;> first | (simp [plainIt] at hp; done) | skip
    all_goals (unfold chkI at h1; split at h1 <;> first | (simp only [Bool.and_eq_true] at h1; simp_all; done) | (cases h1; done) | (simp_all; done))
  cases tg <;> first | (simp [isTup] at h0; done) | skip
  cases t <;> first | (simp [chkT] at h2; done) | exact ⟨_, rfl⟩
mutual
theorem sE {X : Cx} {sc : Scope} {W : WX} (h : Here X F N sc C xr n W) (rd : Bool) : ∀ (c : CE) (e : Expr), chkE F N c sc e = true → PE X e (tE (kwOf X) xr C W rd c)
  | .const d, e, hc => by
    cases e with
    | Constant c k p =>
      simp only [chkE] at hc
      obtain ⟨v, P, r⟩ := const_ok (X := X) (k := k) (p := p) hc
      refine PE.imp P fun σ H Q ⟨Γ, δ, O, k, x, fr, hev, q, _⟩ => ?_
      exact q d v H (by simpa [ev] using hev) (.refl fr.w) (Vr.of fr.m (r _ _ _))
    | _ => simp [chkE] at hc
  | .var i, e, hc => by
    cases e with
    | Name y p =>
      simp only [chkE, Bool.and_eq_true, decide_eq_true_eq] at hc
      obtain ⟨⟨h1, h2⟩, h3⟩ := hc
      have hv : Vis X.env.scope y := by
        rw [h.site.sc]
        unfold vis at h2
        split at h2
        · exact .inl (by assumption)
        · exact .inr (.inl (by assumption))
        · exact .inr (.inr (by assumption))
        · cases h2
      refine PE.imp (pe_var (i := i) (pos := p) (by rw [h.hN]; exact h1) hv (plain_dbg h3).1 (plain_dbg h3).2) fun σ H Q ⟨Γ, δ, O, k, x, fr, hev, q, _⟩ => ?_
      simp only [ev] at hev
      split at hev
      · rename_i d e1
        obtain ⟨v, e2, r⟩ := fr.slot i _ e1
        exact ⟨v, e2, q d v H hev (.refl fr.w) (Vr.of fr.m r)⟩
      · rename_i ds e1
        obtain ⟨rfl, hk⟩ := hev
        obtain ⟨v, e2, a, vs, rfl, e3, e4, e5, e6⟩ := fr.slot i _ e1
        exact ⟨_, e2, q _ _ H hk (.refl fr.w) ⟨a, vs, rfl, .inl ⟨.inl e3, fr.noM e5⟩, e6⟩⟩
      · exact hev.elim
    | _ => simp [chkE] at hc
  | .glob y, e, hc => by
    cases e with
    | Name z p =>
      simp only [chkE, Bool.and_eq_true, decide_eq_true_eq] at hc
      obtain ⟨⟨rfl, h2⟩, h3⟩ := hc
      refine ⟨fun pins s σ H Q I ⟨Γ, δ, O, k, x, fr, hev, q, _⟩ => ?_⟩
      simp only [ev] at hev
      obtain ⟨d, e1, e0, hk⟩ := hev
      obtain ⟨u, v, m, r, rp⟩ := h.stat.glob z d e1 e0
      exact (pe_glob (X := X) (pos := p) (h.site.gl h2) m r (plain_dbg h3).1).run pins s σ H Q I (q d v H hk (.refl fr.w) (Vr.of fr.m (rp _ _)))
    | _ => simp [chkE] at hc
  | .tup r, e, hc => by
    cases e with
    | Tuple es k p =>
      simp only [chkE] at hc
      refine PE.imp (pe_tupF (x1 := k) (pos := p) (sA h r es hc)) fun σ H Q ⟨Γ, δ, O, k, x, fr, hev, q, hx⟩ => ?_
      simp only [ev] at hev
      refine ⟨Γ, δ, O, _, x, fr, hev, fun ss vs H1 ⟨ds, e1, e2, hk⟩ l ar => ?_, hx⟩
      have rs := ar.vals e1
      refine ⟨by rw [rs.length]; exact e2, fun p o hp hd => ?_⟩
      exact fin_same fr l hk q _ _ (same_upd hp) (mkT hp hd rs)
    | _ => simp [chkE] at hc
  | .lst r, e, hc => by
    cases e with
    | List es p =>
      simp only [chkE] at hc
      refine PE.imp (pe_lst (pos := p) (sA h r es hc)) fun σ H Q ⟨Γ, δ, O, k, x, fr, hev, q, hx⟩ => ?_
      simp only [ev] at hev
      refine ⟨Γ, δ, O, _, x, fr, hev, fun ss vs H1 ⟨ds, e1, e2, hk⟩ l ar => ?_, hx⟩
      have rs := ar.vals e1
      refine ⟨by rw [rs.length]; exact e2, fun p hp => ?_⟩
      exact fin_same fr l hk q _ _ (same_upd hp) (mkL (fr.later l).otr hp rs)
    | _ => simp [chkE] at hc
  | .op1 o a, e, hc => by
    simp only [chkE] at hc
    split at hc
    · rename_i ea he
      refine PE.imp (op1_ok h.site he (sE h true a ea hc) mono_tE) fun σ H Q ⟨Γ, δ, O, k, x, fr, hev, q, hx⟩ => ?_
      simp only [ev] at hev
      refine ⟨Γ, δ, O, _, x, fr, hev, fun d v H1 ⟨r, e1, hk⟩ l rp => ?_, hx⟩
      exact ⟨Γ, O, d, r, (fr.later l).otr, rp, e1, fin_same fr l hk q⟩
    · cases hc
  | .op2 o a b, e, hc => by
    simp only [chkE] at hc
    split at hc
    · rename_i ea eb he
      simp only [Bool.and_eq_true] at hc
      refine PE.imp (op2_ok h.site he (sE h true a ea hc.1) (sE h true b eb hc.2) mono_tE mono_tE) fun σ H Q ⟨Γ, δ, O, k, x, fr, hev, q, hx⟩ => ?_
      simp only [ev] at hev
      refine ⟨Γ, δ, O, _, x, fr, hev, fun d v H1 ⟨hr, hk⟩ l rp => ⟨rcv_of hr rp, ?_⟩, hx⟩
      have f1 := fr.later l
      refine ⟨Γ, δ, O, _, x, f1, hk, fun d' v' H2 ⟨r, e1, hk⟩ l2 rp2 => ?_, hx.later l⟩
      exact ⟨Γ, O, d, d', r, (f1.later l2).otr, rp.later f1 l2, rp2, e1, fin_same fr (l.trans l2) hk q⟩
    · cases hc
  | .slc a lo hi, e, hc => by
    cases e with
    | Subscript ea es p =>
      cases es with
      | Slice l u st p2 =>
        cases st with
        | none =>
          simp only [chkE, Bool.and_eq_true] at hc
          refine PE.imp (pe_slice sl_any (sE h true a ea hc.1.1) (sP h lo l hc.1.2) (sP h hi u hc.2)) fun σ H Q ⟨Γ, δ, O, k, x, fr, hev, q, hx⟩ => ?_
          simp only [ev] at hev
          refine ⟨Γ, δ, O, _, x, fr, hev, fun d v H1 hk l rp => ?_, hx⟩
          have f1 := fr.later l
          refine ⟨Γ, δ, O, _, x, f1, hk, fun i H2 hk l2 => ?_, hx.later l⟩
          have f2 := f1.later l2
          refine ⟨Γ, δ, O, _, x, f2, hk, fun j H3 ⟨r, e1, hk⟩ l3 => ?_, (hx.later l).later l2⟩
          exact ⟨Γ, O, d, r, (f2.later l3).otr, (rp.later f1 l2).later f2 l3, e1, fin_same fr ((l.trans l2).trans l3) hk q⟩
        | some _ => simp [chkE] at hc
      | _ => simp [chkE] at hc
    | _ => simp [chkE] at hc
  | .chain o o' a b c, e, hc => by
    cases e with
    | Compare ea ops cs p =>
      match ops, cs, hc with
      | [op, op'], [eb, ec], hc =>
        simp only [chkE, Bool.and_eq_true, decide_eq_true_eq] at hc
        obtain ⟨⟨⟨⟨⟨h1, h2⟩, h3⟩, h4⟩, h5⟩, h6⟩ := hc
        refine PE.imp (pe_chain (pos := p) (cmp_ok h.site h1) (cmp_ok h.site h2) (sE h true a ea h4) (sE h true b eb h5) (sE h true c ec h6) (marks_ok (op := op') h3)) fun σ H Q ⟨Γ, δ, O, k, x, fr, hev, q, hx⟩ => ?_
        simp only [ev] at hev
        refine ⟨Γ, δ, O, _, x, fr, hev, fun d v H1 hk l rp => ?_, hx⟩
        have f1 := fr.later l
        refine ⟨Γ, δ, O, _, x, f1, hk, fun d' v' H2 ⟨z, e1, hk⟩ l2 rp2 => ?_, hx.later l⟩
        have f2 := f1.later l2
        refine ⟨Γ, O, d, d', .bool z, f2.otr, rp.later f1 l2, rp2, e1, fun v3 H3 s3 r3 => ?_⟩
        cases r3
        refine ⟨z, rfl, ?_⟩
        have l3 : Later Γ H2 H3 := Later.of_same f2.gh f2.w s3
        have f3 := f2.later l3
        cases z with
        | false => exact q _ _ _ hk ((l.trans l2).trans l3) (Vr.of fr.m (.bl _))
        | true =>
          refine ⟨Γ, δ, O, _, x, f3, hk, fun d4 v4 H4 ⟨r, e2, hk⟩ l4 rp4 => ?_, ((hx.later l).later l2).later l3⟩
          exact ⟨Γ, O, d', d4, r, (f3.later l4).otr, (rp2.later f2 l3).later f3 l4, rp4, e2, fin_same fr (((l.trans l2).trans l3).trans l4) hk q⟩
      | [], _, hc => simp [chkE] at hc
      | [_], _, hc => simp [chkE] at hc
      | _ :: _ :: _ :: _, _, hc => simp [chkE] at hc
      | [_, _], [], hc => simp [chkE] at hc
      | [_, _], [_], hc => simp [chkE] at hc
      | [_, _], _ :: _ :: _ :: _, hc => simp [chkE] at hc
    | _ => simp [chkE] at hc
  | .and_ a r, e, hc => by
    cases e with
    | BoolOp op es p =>
      cases op with
      | And =>
        match es, hc with
        | e1 :: e2 :: es, hc =>
          simp only [chkE, Bool.and_eq_true] at hc
          have R : PE X (.BoolOp .And (e2 :: es) p) (tE (kwOf X) xr C W false r) := by
            cases es with
            | nil => exact pe_one (sE h false r e2 hc.2)
            | cons e3 es => exact sE h false r _ hc.2
          refine PE.imp (pe_and (pos := p) (sE h false a e1 hc.1) R) fun σ H Q ⟨Γ, δ, O, k, x, fr, hev, q, hx⟩ => ?_
          simp only [ev] at hev
          refine ⟨Γ, δ, O, _, x, fr, hev, fun d v H1 ⟨b, e1, hk⟩ l rp => ?_, hx⟩
          subst e1
          cases rp
          refine ⟨b, rfl, ?_⟩
          cases b with
          | false => exact q _ _ _ hk l (Vr.of fr.m (.bl _))
          | true => exact ⟨Γ, δ, O, k, x, fr.later l, hk, fun d v H2 hk l2 rp => q d v H2 hk (l.trans l2) (Vr.of fr.m rp), hx.later l⟩
        | [], hc => simp [chkE] at hc
        | [_], hc => simp [chkE] at hc
      | Or => simp [chkE] at hc
    | _ => simp [chkE] at hc
  | .or_ a r, e, hc => by
    cases e with
    | BoolOp op es p =>
      cases op with
      | Or =>
        match es, hc with
        | e1 :: e2 :: es, hc =>
          simp only [chkE, Bool.and_eq_true] at hc
          have R : PE X (.BoolOp .Or (e2 :: es) p) (tE (kwOf X) xr C W false r) := by
            cases es with
            | nil => exact pe_one (sE h false r e2 hc.2)
            | cons e3 es => exact sE h false r _ hc.2
          refine PE.imp (pe_or (pos := p) (sE h false a e1 hc.1) R) fun σ H Q ⟨Γ, δ, O, k, x, fr, hev, q, hx⟩ => ?_
          simp only [ev] at hev
          refine ⟨Γ, δ, O, _, x, fr, hev, fun d v H1 ⟨b, e1, hk⟩ l rp => ?_, hx⟩
          subst e1
          cases rp
          refine ⟨b, rfl, ?_⟩
          cases b with
          | true => exact q _ _ _ hk l (Vr.of fr.m (.bl _))
          | false => exact ⟨Γ, δ, O, k, x, fr.later l, hk, fun d v H2 hk l2 rp => q d v H2 hk (l.trans l2) (Vr.of fr.m rp), hx.later l⟩
        | [], hc => simp [chkE] at hc
        | [_], hc => simp [chkE] at hc
      | And => simp [chkE] at hc
    | _ => simp [chkE] at hc
  | .not_ a, e, hc => by
    cases e with
    | UnaryOp op ea p =>
      cases op with
      | Not =>
        simp only [chkE] at hc
        refine PE.imp (pe_not (pos := p) (sE h true a ea hc)) fun σ H Q ⟨Γ, δ, O, k, x, fr, hev, q, hx⟩ => ?_
        simp only [ev] at hev
        refine ⟨Γ, δ, O, _, x, fr, hev, fun d v H1 ⟨b, e1, hk⟩ l rp => ?_, hx⟩
        subst e1
        cases rp
        exact ⟨b, rfl, q _ _ _ hk l (Vr.of fr.m (.bl _))⟩
      | _ => simp [chkE] at hc
    | _ => simp [chkE] at hc
  | .ifx c a b, e, hc => by
    cases e with
    | IfExp ec ea eb p =>
      simp only [chkE, Bool.and_eq_true] at hc
      refine PE.imp (pe_ifExp (pos := p) (sT h c ec hc.1.1) (sE h rd a ea hc.1.2) (sE h rd b eb hc.2)) fun σ H Q ⟨Γ, δ, O, k, x, fr, hev, q, hx⟩ => ?_
      simp only [ev] at hev
      refine ⟨Γ, δ, O, _, x, fr, hev, fun z H1 hk l => ?_, hx⟩
      have f1 := fr.later l
      cases z with
      | true => exact ⟨Γ, δ, O, k, x, f1, hk, fun d v H2 hk l2 rp => q d v H2 hk (l.trans l2) rp, hx.later l⟩
      | false => exact ⟨Γ, δ, O, k, x, f1, hk, fun d v H2 hk l2 rp => q d v H2 hk (l.trans l2) rp, hx.later l⟩
    | _ => simp [chkE] at hc
  | .call f r, e, hc => by
    cases e with
    | Call fe es kws p =>
      cases fe with
      | Name y py =>
        match kws, hc with
        | [], hc =>
          simp only [chkE, Bool.and_eq_true, decide_eq_true_eq] at hc
          obtain ⟨⟨⟨⟨h1, h2⟩, h3⟩, h4⟩, h5⟩ := hc
          have fin : ∀ {σ : L2.St} {H H1 : Hp} {Q : VK} {Γ : Gh} {δ : Dl} {O : Addr → Prop} {k : D → Prop} {x : KX} {ss : List Slot} {vs : List V}, Fr (kwOf X) Γ δ σ H O → Later Γ H H1 → C.call f ss (fun s => ∃ d, slotD s = some d ∧ k d) x → AReps (kwOf X) Γ H1 O ss vs →
              (∀ d v H', k d → Later Γ H H' → Vr (kwOf X) Γ rd H' O v d → Q v H') → XOk xr W Γ O σ H x → spC (kwOf X) xr C.call f es.length vs H1 Q fun cls dd H' => W cls dd σ H' := by
            intro σ H H1 Q Γ δ O k x ss vs fr l hk ar q hx
            have f1 := fr.later l
            refine ⟨by rw [← ar.length]; exact h.stat.lens f y _ h1 ss _ _ hk, Γ, O, ss, _, x, fr.gh, l.w, f1.otr, fr.m, ar, hk, fun s v H' ⟨d, e1, hk⟩ l' rr => ?_, fun e cls dd H' hx' l' xx => hx e cls dd H' hx' (l.trans l') xx⟩
            cases s with
            | val d' => cases e1; exact q _ _ _ hk (l.trans l') (Vr.of fr.m rr)
            | own ds =>
              cases e1
              obtain ⟨a, us, rfl, e2, e3, e4⟩ := rr
              refine q _ _ _ hk (l.trans l') (Vr.of fr.m (.lst (.inl ⟨.inl e2, fun z => f1.otr a z e3⟩) (Reps.ext (Ext.sub fun b z => .inl z) _ _ e4)))
            | st => cases e1
          cases es with
          | nil =>
            refine PE.imp (pe_fn0 (p := py) (pos := p) h h1 h2 h3) fun σ H Q ⟨Γ, δ, O, k, x, fr, hev, q, hx⟩ => ?_
            have er : r = .nil := by cases r <;> first | rfl | (simp [chkA] at h5)
            subst er
            simp only [ev, evA] at hev
            exact fin fr (.refl fr.w) hev .nil q hx
          | cons e1 es =>
            refine PE.imp (pe_fn (p := py) (pos := p) h h1 h2 h3 h4 (sA h r _ h5)) fun σ H Q ⟨Γ, δ, O, k, x, fr, hev, q, hx⟩ => ?_
            simp only [ev] at hev
            exact ⟨Γ, δ, O, _, x, fr, hev, fun ss vs H1 hk l ar => fin fr l hk ar q hx, hx⟩
        | _ :: _, hc => simp [chkE] at hc
      | _ => simp [chkE] at hc
    | _ => simp [chkE] at hc
  | .comp own e t it ifs, ee, hc => by
    cases ee with
    | ListComp elt gens scope p =>
      obtain ⟨⟨tg, iter, ifs', a⟩, rfl⟩ := inv_comp hc
      simp only [chkE, Bool.and_eq_true, decide_eq_true_eq] at hc
      obtain ⟨⟨⟨⟨⟨⟨⟨rfl, h1⟩, h2⟩, h3⟩, h4⟩, h5⟩, h6⟩, h7⟩ := hc
      have hown : (own.map fun i => (N.getD i "", i)).map (·.2) = own := by simp [List.map_map, Function.comp_def]
      have ok : BlkOk X.N X.env.scope scope (own.map fun i => (N.getD i "", i)) := by
        rw [h.hN, h.site.sc]
        exact blkOk_by h1
      have hs : ∀ y, foldedSetIterable iter X.env y = pure y := fun y => by
        cases iter <;> first | rfl | (simp [notSet] at h2)
      have hI := sI h true it tg iter h3
      have hT : ∀ (s : Shared) (H : Hp) (A : Addr) (cl : List (Str × Addr)) (fp : List Addr), PTs (X.blk s H scope (compEnvC scope cl A X.env) fp) ifs' (tT (kwOf X) xr C (fun _ _ _ _ => False) ifs) := fun s H A cl fp => by
        match ifs', h6 with
        | [], h6 =>
          cases ifs <;> first | (simp at h6; done) | skip
          refine ⟨fun pins s σ H Q I ⟨Γ, δ, O, k, x, fr, hev, q, hx⟩ => pts_nil.run pins s σ H Q I ?_⟩
          exact q true H (by simpa [evT] using hev) (.refl fr.w)
        | [c], h6 => exact pts_one (sT (h.blk s H A cl fp) ifs c h6)
        | _ :: _ :: _, h6 => simp at h6
      have P := pe_lc (pos := p) h.site.calm h.nd hI ok (fun s H A cl fp => sTg (X := X.blk s H scope (compEnvC scope cl A X.env) fp) h.hN h.nd (h.blk s H A cl fp).site.sc rfl h.site.calm t tg h4)
        (elt := elt) (g := gT (kwOf X) t) (te := tE (kwOf X) xr C (fun _ _ _ _ => False) false e) (tt := tT (kwOf X) xr C (fun _ _ _ _ => False) ifs) hT (fun s H A cl fp => sE (h.blk s H A cl fp) false e elt h7) hs
      rw [hown] at P
      refine PE.imp P fun σ H Q ⟨Γ, δ, O, k, x, fr, hev, q, hx⟩ => ?_
      refine comp_core (by simpa using h5) (plain_tup h3 h4) fr (by rw [ev_comp] at hev ⊢; exact hev) hx fun acc p vs H' hk l hp e2 rs ot no => ?_
      exact q _ _ _ hk l (Vr.of fr.m (.lst (.inl ⟨.inl e2, no⟩) (Reps.ext (Ext.sub fun b z => .inl z) _ _ rs)))
    | _ => simp [chkE] at hc
  | .nil, e, hc => by simp [chkE] at hc
  | .cons _ _, e, hc => by simp [chkE] at hc
  | .nopart, e, hc => by simp [chkE] at hc
  | .iter _, e, hc => by simp [chkE] at hc
  | .range1 _, e, hc => by simp [chkE] at hc
  | .range2 _ _, e, hc => by simp [chkE] at hc
  | .zip2 _ _, e, hc => by simp [chkE] at hc
  | .zip2s _ _, e, hc => by simp [chkE] at hc
  | .enum _, e, hc => by simp [chkE] at hc
  | .dset i a, e, hc => by
    obtain ⟨y, p1, ck, p2, p3, iter, scope, pos, rfl, h1, h2, h3, h4, h5, h6, h7⟩ := inv_dset hc
    have ok : BlkOk X.N X.env.scope scope [(y, i)] := by
      rw [h.hN, h.site.sc]
      exact blkOk_by h2
    have hs : ∀ y, foldedSetIterable iter X.env y = pure y := fun y => by
      cases iter <;> first | rfl | (simp [notSet] at h3)
    have hN : X.N[i]? = some y := by rw [h.hN]; exact h1
    have hu : X.A.units + 1 < cLine := by have := h.site.units; omega
    refine PE.imp (pe_dset (pos := pos) (p1 := p1) (p2 := p2) (p3 := p3) (ck := ck) hu h.site.calm h.nd (sE h true a iter h4) mono_tE ok hN (fun s H A cl fp => ?_) (fun s H A cl fp => ?_) hs) fun σ H Q ⟨Γ, δ, O, k, x, fr, hev, q, hx⟩ => ?_
    · have hsc := (h.blk (scope := scope) s H A cl fp).site.sc
      refine pg_name (X := X.blk s H scope (compEnvC scope cl A X.env) fp) h.nd hN ?_ ?_
      · rw [hsc]
        rcases h5 with h5 | h5
        · exact .inl h5
        · exact .inr h5.1
      · rcases h5 with h5 | h5
        · right; rw [hsc]; exact h5
        · exact .inl h5.2
    · have hsc := (h.blk (scope := scope) s H A cl fp).site.sc
      have hv : Vis (X.blk s H scope (compEnvC scope cl A X.env) fp).env.scope y := by
        rw [hsc]
        unfold vis at h6
        split at h6
        · exact .inl (by assumption)
        · exact .inr (.inl (by assumption))
        · exact .inr (.inr (by assumption))
        · cases h6
      exact pe_var (X := X.blk s H scope (compEnvC scope cl A X.env) fp) (i := i) (pos := p1) hN hv (plain_dbg h7).1 (plain_dbg h7).2
    · simp only [ev] at hev
      refine ⟨by rw [← fr.len]; exact hev.1, Γ, δ, O, _, x, fr, hev.2, fun d v H1 ⟨r, e1, hk⟩ l rp => ?_, hx⟩
      exact ⟨Γ, O, d, r, (fr.later l).otr, rp, e1, fin_same fr l hk q⟩
  | .getG y a, e, hc => by
    cases e with
    | Subscript en ei p =>
      cases en with
      | Name z pz =>
        simp only [chkE, Bool.and_eq_true, decide_eq_true_eq] at hc
        obtain ⟨⟨⟨⟨rfl, h1⟩, h2⟩, h3⟩, h4⟩ := hc
        refine ⟨fun pins s σ H Q I ⟨Γ, δ, O, k, x, fr, hev, q, hx⟩ => ?_⟩
        simp only [ev] at hev
        obtain ⟨es, e1, hev⟩ := hev
        obtain ⟨d, ens, n', m, KD, look⟩ := h.stat.gd z es e1
        refine (pe_ix (X := X) (pos := p) ix_kdict (pe_glob (pos := pz) (v := .ref d) (h.site.gl h1) m rfl (plain_dbg h2).1) (sE h true a ei h4) (plainIx h3)).run pins s σ H Q I ?_
        refine ⟨Γ, δ, O, _, x, fr, hev, fun dd v H1 ⟨t, w, ed, hl, hk⟩ l rp => ?_, hx⟩
        subst ed
        have rp' := Vr.not_list rp (fun _ z => by cases z)
        cases rp'
        obtain ⟨r, hr, _, hv⟩ := look t
        obtain ⟨u0, v0, er, rv, rr⟩ := hv w hl
        subst er
        exact ⟨d, t, v0, rfl, rfl, ⟨ens, n', u0, KD.at_, KD.lit, hr, rv⟩, q _ _ _ hk l (Vr.of fr.m (rr _ _))⟩
      | _ => simp [chkE] at hc
    | _ => simp [chkE] at hc
  | .inG neg a y, e, hc => by
        obtain ⟨ea, op, z, pz, p, rfl, h0, rfl, h1, h2, h4⟩ := inv_inG hc
        refine ⟨fun pins s σ H Q I ⟨Γ, δ, O, k, x, fr, hev, q, hx⟩ => ?_⟩
        simp only [ev] at hev
        obtain ⟨es, e1, hev⟩ := hev
        obtain ⟨d, ens, n', m, KD, look⟩ := h.stat.gd z es e1
        have PG := pe_glob (X := X) (pos := pz) (v := .ref d) (h.site.gl h1) m rfl (plain_dbg h2).1
        cases neg with
        | false =>
          subst h0
          refine (pe_cmpR (pos := p) (op_in_kd KD) (sE h true a ea h4) PG rfl).run pins s σ H Q I ?_
          refine ⟨Γ, δ, O, _, x, fr, hev, fun dd v H1 ⟨t, ed, hk⟩ l rp => ?_, hx⟩
          subst ed
          have rp' := Vr.not_list rp (fun _ z => by cases z)
          cases rp'
          obtain ⟨r, hr, hs, hv⟩ := look t
          rw [hs] at hk
          exact ⟨t, r, rfl, rfl, hr, q _ _ _ hk l (Vr.of fr.m (.bl _))⟩
        | true =>
          subst h0
          refine (pe_cmpR (pos := p) (op_notIn_kd KD) (sE h true a ea h4) PG rfl).run pins s σ H Q I ?_
          refine ⟨Γ, δ, O, _, x, fr, hev, fun dd v H1 ⟨t, ed, hk⟩ l rp => ?_, hx⟩
          subst ed
          have rp' := Vr.not_list rp (fun _ z => by cases z)
          cases rp'
          obtain ⟨r, hr, hs, hv⟩ := look t
          rw [hs] at hk
          exact ⟨t, r, rfl, rfl, hr, q _ _ _ hk l (Vr.of fr.m (.bl _))⟩
  | .disp ks r, e, hc => by
    cases e with
    | Dict keys values p =>
      simp only [chkE, Bool.and_eq_true, decide_eq_true_eq] at hc
      obtain ⟨⟨⟨⟨h1, h2⟩, h3⟩, h4⟩, h5⟩ := hc
      obtain ⟨k1, k2⟩ := keysAre_len h1
      have hl : lenR r = some ks.length := by rw [chkA_len h4, ← h2, k1]
      by_cases h0 : keys = []
      · subst h0
        have ek : ks = [] := by cases ks <;> first | rfl | simp at k1
        subst ek
        have ev0 : values = [] := by cases values <;> first | rfl | simp at h2
        subst ev0
        have er : r = .nil := by cases r <;> first | rfl | (simp [chkA] at h4)
        subst er
        refine PE.imp (pe_dnewK (pos := p)) fun σ H Q ⟨Γ, δ, O, k, x, fr, hev, q, hx⟩ => ?_
        simp only [ev, evV] at hev
        exact fun pp hp => q _ _ _ hev.2.2.2 (Later.of_same fr.gh fr.w (same_upd hp)) (Vr.of fr.m (.dct upd_same (fun z => fr.otr pp z hp) .nil))
      · refine PE.imp (pe_disp (pos := p) (sPPs h r p ks keys values h1 h2 h4) k2 h2 h0 (by rw [k1]; exact h5)) fun σ H Q ⟨Γ, δ, O, k, x, fr, hev, q, hx⟩ => ?_
        simp only [ev] at hev
        exact disp_read h.stat.xm hl fr hev hx fun d v H' hk l rp => q d v H' hk l (Vr.of fr.m rp)
    | _ => simp [chkE] at hc
  | .comp2 own own2 e' t it t2 it2 ifs, ee, hc => by
    cases ee with
    | ListComp elt gens scope p =>
      obtain ⟨⟨tg, iter, ifs1, a⟩, ⟨tg2, iter2, ifs2, a2⟩, rfl⟩ := inv_comp2 hc
      simp only [chkE, Bool.and_eq_true, decide_eq_true_eq] at hc
      obtain ⟨⟨⟨⟨⟨⟨⟨⟨⟨⟨⟨⟨⟨⟨rfl, rfl⟩, h0⟩, h1⟩, h2⟩, h2'⟩, h3⟩, h3'⟩, h4⟩, h4'⟩, h5⟩, h5'⟩, h8⟩, h6⟩, h7⟩ := hc
      have hown : (own.map fun i => (N.getD i "", i)).map (·.2) = own := by simp [List.map_map, Function.comp_def]
      have ok : BlkOk X.N X.env.scope scope (own.map fun i => (N.getD i "", i)) := by
        rw [h.hN, h.site.sc]
        exact blkOk_by h1
      have hs : ∀ y, foldedSetIterable iter X.env y = pure y := fun y => by
        cases iter <;> first | rfl | (simp [notSet] at h2)
      have hs2 : ∀ env y, foldedSetIterable iter2 env y = pure y := fun env y => by
        cases iter2 <;> first | rfl | (simp [notSet] at h2')
      have hI := sI h true it tg iter h3
      have hT1 : ifs1 = [] := by cases ifs1 <;> first | rfl | (simp at h0)
      subst hT1
      have hT : ∀ (s : Shared) (H : Hp) (A : Addr) (cl : List (Str × Addr)) (fp : List Addr), PTs (X.blk s H scope (compEnvC scope cl A X.env) fp) ifs2 (tT (kwOf X) xr C (fun _ _ _ _ => False) ifs) := fun s H A cl fp => by
        match ifs2, h6 with
        | [], h6 =>
          cases ifs <;> first | (simp at h6; done) | skip
          refine ⟨fun pins s σ H Q I ⟨Γ, δ, O, k, x, fr, hev, q, hx⟩ => pts_nil.run pins s σ H Q I ?_⟩
          exact q true H (by simpa [evT] using hev) (.refl fr.w)
        | [c], h6 => exact pts_one (sT (h.blk s H A cl fp) ifs c h6)
        | _ :: _ :: _, h6 => simp at h6
      have P := pe_lc2 (pos := p) (vs1 := own2) (elt := elt) (g := gT (kwOf X) t) (g1 := gT (kwOf X) t2) (te := tE (kwOf X) xr C (fun _ _ _ _ => False) false e') (tt1 := tT (kwOf X) xr C (fun _ _ _ _ => False) ifs) (wi1 := tI (kwOf X) xr C (fun _ _ _ _ => False) false it2) h.site.calm h.nd hI ok (by rw [hown]; simpa using h8) (fun s H A cl fp => sTg (X := X.blk s H scope (compEnvC scope cl A X.env) fp) h.hN h.nd (h.blk s H A cl fp).site.sc rfl h.site.calm t tg h4)
        (fun s H A cl fp => pts_nil) (fun s H A cl fp => sI (h.blk s H A cl fp) false it2 tg2 iter2 h3') (fun s H A cl fp => sTg (X := X.blk s H scope (compEnvC scope cl A X.env) fp) h.hN h.nd (h.blk s H A cl fp).site.sc rfl h.site.calm t2 tg2 h4')
        hT (fun s H A cl fp => sE (h.blk s H A cl fp) false e' elt h7) hs hs2
      rw [hown] at P
      refine PE.imp P fun σ H Q ⟨Γ, δ, O, k, x, fr, hev, q, hx⟩ => ?_
      refine comp2_core (by simpa using h5) (plain_tup h3 h4) (by simpa using h5') (plain_tup h3' h4') fr (by rw [ev_comp2] at hev ⊢; exact hev) hx fun acc p vs H' hk l hp e2 rs ot no => ?_
      exact q _ _ _ hk l (Vr.of fr.m (.lst (.inl ⟨.inl e2, no⟩) (Reps.ext (Ext.sub fun b z => .inl z) _ _ rs)))
    | _ => simp [chkE] at hc
termination_by c => 8 * sizeOf c
theorem sP {X : Cx} {sc : Scope} {W : WX} (h : Here X F N sc C xr n W) : ∀ (c : CE) (e : Option Expr), chkP F N c sc e = true → PO X e (tP (kwOf X) xr C W c)
  | .nopart, none, hc => ⟨fun pins s σ H Q I ⟨Γ, δ, O, k, x, fr, hev, q, hx⟩ => po_none.run pins s σ H Q I (q none H (by simpa [evP] using hev) (.refl fr.w))⟩
  | .cons a .nil, some e, hc => by
    simp only [chkP] at hc
    refine ⟨fun pins s σ H Q I ⟨Γ, δ, O, k, x, fr, hev, q, hx⟩ => (po_some (sE h true a e hc)).run pins s σ H Q I ?_⟩
    simp only [evP] at hev
    refine ⟨Γ, δ, O, _, x, fr, hev, fun d v H1 ⟨i, e1, hk⟩ l rp => ?_, hx⟩
    subst e1
    cases rp
    exact ⟨i, rfl, q _ _ hk l⟩
  | .nopart, some _, hc => by simp [chkP] at hc
  | .cons a .nil, none, hc => by simp [chkP] at hc
  | .cons _ (.const _), _, hc => by simp [chkP] at hc
  | .cons _ (.var _), _, hc => by simp [chkP] at hc
  | .cons _ (.glob _), _, hc => by simp [chkP] at hc
  | .cons _ (.cons _ _), _, hc => by simp [chkP] at hc
  | .cons _ (.tup _), _, hc => by simp [chkP] at hc
  | .cons _ (.lst _), _, hc => by simp [chkP] at hc
  | .cons _ (.op1 _ _), _, hc => by simp [chkP] at hc
  | .cons _ (.op2 _ _ _), _, hc => by simp [chkP] at hc
  | .cons _ (.slc _ _ _), _, hc => by simp [chkP] at hc
  | .cons _ (.nopart), _, hc => by simp [chkP] at hc
  | .cons _ (.chain _ _ _ _ _), _, hc => by simp [chkP] at hc
  | .cons _ (.and_ _ _), _, hc => by simp [chkP] at hc
  | .cons _ (.or_ _ _), _, hc => by simp [chkP] at hc
  | .cons _ (.not_ _), _, hc => by simp [chkP] at hc
  | .cons _ (.ifx _ _ _), _, hc => by simp [chkP] at hc
  | .cons _ (.call _ _), _, hc => by simp [chkP] at hc
  | .cons _ (.comp _ _ _ _ _), _, hc => by simp [chkP] at hc
  | .cons _ (.iter _), _, hc => by simp [chkP] at hc
  | .cons _ (.range1 _), _, hc => by simp [chkP] at hc
  | .cons _ (.range2 _ _), _, hc => by simp [chkP] at hc
  | .cons _ (.zip2 _ _), _, hc => by simp [chkP] at hc
  | .cons _ (.enum _), _, hc => by simp [chkP] at hc
  | .const _, _, hc => by simp [chkP] at hc
  | .var _, _, hc => by simp [chkP] at hc
  | .glob _, _, hc => by simp [chkP] at hc
  | .nil, _, hc => by simp [chkP] at hc
  | .tup _, _, hc => by simp [chkP] at hc
  | .lst _, _, hc => by simp [chkP] at hc
  | .op1 _ _, _, hc => by simp [chkP] at hc
  | .op2 _ _ _, _, hc => by simp [chkP] at hc
  | .slc _ _ _, _, hc => by simp [chkP] at hc
  | .chain _ _ _ _ _, _, hc => by simp [chkP] at hc
  | .and_ _ _, _, hc => by simp [chkP] at hc
  | .or_ _ _, _, hc => by simp [chkP] at hc
  | .not_ _, _, hc => by simp [chkP] at hc
  | .ifx _ _ _, _, hc => by simp [chkP] at hc
  | .call _ _, _, hc => by simp [chkP] at hc
  | .comp _ _ _ _ _, _, hc => by simp [chkP] at hc
  | .iter _, _, hc => by simp [chkP] at hc
  | .range1 _, _, hc => by simp [chkP] at hc
  | .range2 _ _, _, hc => by simp [chkP] at hc
  | .zip2 _ _, _, hc => by simp [chkP] at hc
  | .enum _, _, hc => by simp [chkP] at hc
  | .cons _ (.zip2s _ _), _, hc => by simp [chkP] at hc
  | .cons _ (.dset _ _), _, hc => by simp [chkP] at hc
  | .cons _ (.comp2 _ _ _ _ _ _ _ _), _, hc => by simp [chkP] at hc
  | .cons _ (.disp _ _), _, hc => by simp [chkP] at hc
  | .cons _ (.getG _ _), _, hc => by simp [chkP] at hc
  | .cons _ (.inG _ _ _), _, hc => by simp [chkP] at hc
  | .zip2s _ _, _, hc => by simp [chkP] at hc
  | .dset _ _, _, hc => by simp [chkP] at hc
  | .comp2 _ _ _ _ _ _ _ _, _, hc => by simp [chkP] at hc
  | .disp _ _, _, hc => by simp [chkP] at hc
  | .getG _ _, _, hc => by simp [chkP] at hc
  | .inG _ _ _, _, hc => by simp [chkP] at hc
termination_by c => 8 * sizeOf c + 5
theorem sA {X : Cx} {sc : Scope} {W : WX} (h : Here X F N sc C xr n W) : ∀ (c : CE) (es : List Expr), chkA F N c sc es = true → PA X es (tA (kwOf X) xr C W c)
  | .nil, [], hc => PA.imp pa_nil fun σ H Q ⟨Γ, δ, O, k, x, fr, hev, q, hx⟩ => q [] [] H (by simpa [evA] using hev) (.refl fr.w) .nil
  | .cons a r, e :: es, hc => by
    simp only [chkA, Bool.and_eq_true] at hc
    obtain ⟨⟨h1, h2⟩, h3⟩ := hc
    by_cases hv : ∃ i, a = .var i
    · obtain ⟨i, rfl⟩ := hv
      refine PA.imp (pa_cons (sV h i e h2) (sA h r es h3) (star_cons h1)) fun σ H Q ⟨Γ, δ, O, k, x, fr, hev, q, hx⟩ => ?_
      simp only [evA] at hev
      split at hev
      · rename_i d e1
        obtain ⟨v, e2, rp⟩ := fr.slot i _ e1
        refine ⟨v, e2, Γ, δ, O, _, x, fr, hev, fun ss vs H2 hk l2 ar => ?_, hx⟩
        exact q _ _ _ hk l2 (.cons (ARep.later fr l2 (s := .val d) rp) ar)
      · rename_i e1
        obtain ⟨v, e2, rp⟩ := fr.slot i _ e1
        refine ⟨v, e2, Γ, δ, O, _, x, fr, hev, fun ss vs H2 hk l2 ar => ?_, hx⟩
        exact q _ _ _ hk l2 (.cons (ARep.later fr l2 (s := .st) rp) ar)
      · exact hev.elim
    · refine PA.imp (pa_cons (sE h false a e h2) (sA h r es h3) (star_cons h1)) fun σ H Q ⟨Γ, δ, O, k, x, fr, hev, q, hx⟩ => ?_
      rw [evA_cons fun i e => hv ⟨i, e⟩] at hev
      refine ⟨Γ, δ, O, _, x, fr, hev, fun d v H1 hk l rp => ?_, hx⟩
      have f1 := fr.later l
      refine ⟨Γ, δ, O, _, x, f1, hk, fun ss vs H2 hk l2 ar => ?_, hx.later l⟩
      exact q _ _ _ hk (l.trans l2) (.cons (ARep.later f1 l2 (s := .val d) rp) ar)
  | .nil, _ :: _, hc => by simp [chkA] at hc
  | .cons _ _, [], hc => by simp [chkA] at hc
  | .const _, _, hc => by simp [chkA] at hc
  | .var _, _, hc => by simp [chkA] at hc
  | .glob _, _, hc => by simp [chkA] at hc
  | .tup _, _, hc => by simp [chkA] at hc
  | .lst _, _, hc => by simp [chkA] at hc
  | .op1 _ _, _, hc => by simp [chkA] at hc
  | .op2 _ _ _, _, hc => by simp [chkA] at hc
  | .slc _ _ _, _, hc => by simp [chkA] at hc
  | .nopart, _, hc => by simp [chkA] at hc
  | .chain _ _ _ _ _, _, hc => by simp [chkA] at hc
  | .and_ _ _, _, hc => by simp [chkA] at hc
  | .or_ _ _, _, hc => by simp [chkA] at hc
  | .not_ _, _, hc => by simp [chkA] at hc
  | .ifx _ _ _, _, hc => by simp [chkA] at hc
  | .call _ _, _, hc => by simp [chkA] at hc
  | .comp _ _ _ _ _, _, hc => by simp [chkA] at hc
  | .iter _, _, hc => by simp [chkA] at hc
  | .range1 _, _, hc => by simp [chkA] at hc
  | .range2 _ _, _, hc => by simp [chkA] at hc
  | .zip2 _ _, _, hc => by simp [chkA] at hc
  | .enum _, _, hc => by simp [chkA] at hc
  | .zip2s _ _, _, hc => by simp [chkA] at hc
  | .dset _ _, _, hc => by simp [chkA] at hc
  | .comp2 _ _ _ _ _ _ _ _, _, hc => by simp [chkA] at hc
  | .disp _ _, _, hc => by simp [chkA] at hc
  | .getG _ _, _, hc => by simp [chkA] at hc
  | .inG _ _ _, _, hc => by simp [chkA] at hc
termination_by c => 8 * sizeOf c + 5
theorem sPPs {X : Cx} {sc : Scope} {W : WX} (h : Here X F N sc C xr n W) : ∀ (c : CE) (pos : Pos) (ks : List Str) (keys : List (Option Expr)) (es : List Expr), keysAre ks keys = true → keys.length = es.length → chkA F N c sc es = true → PPs X pos keys es (trsOf (kwOf X) xr C W ks c)
  | .nil, pos, ks, keys, es, hk, hn, hc => by
    cases es with
    | nil =>
      obtain ⟨k1, k2⟩ := keysAre_len hk
      cases ks with
      | nil =>
        cases keys with
        | nil => exact pps_nil
        | cons _ _ => simp at k1
      | cons k ks => simp at hn; subst hn; simp at k1
    | cons _ _ => simp [chkA] at hc
  | .cons a r, pos, ks, keys, es, hk, hn, hc => by
    cases es with
    | nil => simp [chkA] at hc
    | cons e es =>
      simp only [chkA, Bool.and_eq_true] at hc
      obtain ⟨⟨h1, h2⟩, h3⟩ := hc
      cases ks with
      | nil =>
        obtain ⟨k1, k2⟩ := keysAre_len hk
        rw [hn] at k1; simp at k1
      | cons k ks =>
        cases keys with
        | nil => simp [keysAre] at hk
        | cons key keys =>
          obtain ⟨c1, c2, rfl, hk1, hk2⟩ := inv_keys hk
          exact pps_cons pe_str (sE h false a e h2) (sPPs h r pos ks keys es hk2 (by simpa using hn) h3)
  | .const _, _, _, _, _, _, _, hc => by simp [chkA] at hc
  | .var _, _, _, _, _, _, _, hc => by simp [chkA] at hc
  | .glob _, _, _, _, _, _, _, hc => by simp [chkA] at hc
  | .tup _, _, _, _, _, _, _, hc => by simp [chkA] at hc
  | .lst _, _, _, _, _, _, _, hc => by simp [chkA] at hc
  | .op1 _ _, _, _, _, _, _, _, hc => by simp [chkA] at hc
  | .op2 _ _ _, _, _, _, _, _, _, hc => by simp [chkA] at hc
  | .slc _ _ _, _, _, _, _, _, _, hc => by simp [chkA] at hc
  | .nopart , _, _, _, _, _, _, hc => by simp [chkA] at hc
  | .chain _ _ _ _ _, _, _, _, _, _, _, hc => by simp [chkA] at hc
  | .and_ _ _, _, _, _, _, _, _, hc => by simp [chkA] at hc
  | .or_ _ _, _, _, _, _, _, _, hc => by simp [chkA] at hc
  | .not_ _, _, _, _, _, _, _, hc => by simp [chkA] at hc
  | .ifx _ _ _, _, _, _, _, _, _, hc => by simp [chkA] at hc
  | .call _ _, _, _, _, _, _, _, hc => by simp [chkA] at hc
  | .comp _ _ _ _ _, _, _, _, _, _, _, hc => by simp [chkA] at hc
  | .iter _, _, _, _, _, _, _, hc => by simp [chkA] at hc
  | .range1 _, _, _, _, _, _, _, hc => by simp [chkA] at hc
  | .range2 _ _, _, _, _, _, _, _, hc => by simp [chkA] at hc
  | .zip2 _ _, _, _, _, _, _, _, hc => by simp [chkA] at hc
  | .enum _, _, _, _, _, _, _, hc => by simp [chkA] at hc
  | .zip2s _ _, _, _, _, _, _, _, hc => by simp [chkA] at hc
  | .dset _ _, _, _, _, _, _, _, hc => by simp [chkA] at hc
  | .comp2 _ _ _ _ _ _ _ _, _, _, _, _, _, _, hc => by simp [chkA] at hc
  | .disp _ _, _, _, _, _, _, _, hc => by simp [chkA] at hc
  | .getG _ _, _, _, _, _, _, _, hc => by simp [chkA] at hc
  | .inG _ _ _, _, _, _, _, _, _, hc => by simp [chkA] at hc
termination_by c => 8 * sizeOf c + 5
theorem sT {X : Cx} {sc : Scope} {W : WX} (h : Here X F N sc C xr n W) : ∀ (c : CE) (e : Expr), chkE F N c sc e = true → PT X e (tT (kwOf X) xr C W c)
  | .and_ a r, e, hc => (sW h (.and_ a r) e hc (.inl ⟨a, r, rfl⟩)).pt
  | .or_ a r, e, hc => (sW h (.or_ a r) e hc (.inr ⟨a, r, rfl⟩)).pt
  | .not_ a, e, hc => by
    cases e with
    | UnaryOp op ea p =>
      cases op with
      | Not =>
        simp only [chkE] at hc
        refine PT.imp (pt_not (pos := p) (sT h a ea hc)) fun σ H Q ⟨Γ, δ, O, k, x, fr, hev, q, hx⟩ => ?_
        simp only [evT] at hev
        exact ⟨Γ, δ, O, _, x, fr, hev, fun b H1 hk l => q _ _ hk l, hx⟩
      | _ => simp [chkE] at hc
    | _ => simp [chkE] at hc
  | .op1 o a, e, hc => by
    simp only [chkE] at hc
    split at hc
    · rename_i ea he
      refine PT.imp (op1T_ok h.site he (sE h true a ea hc) mono_tE) fun σ H Q ⟨Γ, δ, O, k, x, fr, hev, q, hx⟩ => ?_
      simp only [evT] at hev
      refine ⟨Γ, δ, O, _, x, fr, hev, fun d v H1 ⟨b, e1, hk⟩ l rp => ?_, hx⟩
      refine ⟨Γ, O, d, .bool b, (fr.later l).otr, rp, e1, fun v' H' s r' => ?_⟩
      cases r'
      exact ⟨b, rfl, q _ _ hk (l.trans (Later.of_same fr.gh l.w s))⟩
    · cases hc
  | .op2 o a b, e, hc => by
    simp only [chkE] at hc
    split at hc
    · rename_i ea eb he
      simp only [Bool.and_eq_true] at hc
      refine PT.imp (op2T_ok h.site he (sE h true a ea hc.1) (sE h true b eb hc.2) mono_tE mono_tE) fun σ H Q ⟨Γ, δ, O, k, x, fr, hev, q, hx⟩ => ?_
      simp only [evT] at hev
      refine ⟨Γ, δ, O, _, x, fr, hev, fun d v H1 ⟨hr, hk⟩ l rp => ⟨rcv_of hr rp, ?_⟩, hx⟩
      have f1 := fr.later l
      refine ⟨Γ, δ, O, _, x, f1, hk, fun d' v' H2 ⟨z, e1, hk⟩ l2 rp2 => ?_, hx.later l⟩
      refine ⟨Γ, O, d, d', .bool z, (f1.later l2).otr, rp.later f1 l2, rp2, e1, fun v' H' s r' => ?_⟩
      cases r'
      exact ⟨z, rfl, q _ _ hk ((l.trans l2).trans (Later.of_same fr.gh l2.w s))⟩
    · cases hc
  | .chain o o' a b c, e, hc => by
    cases e with
    | Compare ea ops cs p =>
      match ops, cs, hc with
      | [op, op'], [eb, ec], hc =>
        simp only [chkE, Bool.and_eq_true, decide_eq_true_eq] at hc
        obtain ⟨⟨⟨⟨⟨h1, h2⟩, h3⟩, h4⟩, h5⟩, h6⟩ := hc
        refine PT.imp (pt_chain (pos := p) (cmp_ok h.site h1) (cmp_ok h.site h2) (sE h true a ea h4) (sE h true b eb h5) (sE h true c ec h6) (marks_ok (op := op') h3)) fun σ H Q ⟨Γ, δ, O, k, x, fr, hev, q, hx⟩ => ?_
        simp only [evT] at hev
        refine ⟨Γ, δ, O, _, x, fr, hev, fun d v H1 hk l rp => ?_, hx⟩
        have f1 := fr.later l
        refine ⟨Γ, δ, O, _, x, f1, hk, fun d' v' H2 ⟨z, e1, hk⟩ l2 rp2 => ?_, hx.later l⟩
        have f2 := f1.later l2
        refine ⟨Γ, O, d, d', .bool z, f2.otr, rp.later f1 l2, rp2, e1, fun v3 H3 s3 r3 => ?_⟩
        cases r3
        refine ⟨z, rfl, ?_⟩
        have l3 : Later Γ H2 H3 := Later.of_same f2.gh f2.w s3
        have f3 := f2.later l3
        cases z with
        | false => exact ⟨_, rfl, q _ _ hk ((l.trans l2).trans l3)⟩
        | true =>
          refine ⟨Γ, δ, O, _, x, f3, hk, fun d4 v4 H4 ⟨z, e2, hk⟩ l4 rp4 => ?_, ((hx.later l).later l2).later l3⟩
          refine ⟨Γ, O, d', d4, .bool z, (f3.later l4).otr, (rp2.later f2 l3).later f3 l4, rp4, e2, fun v' H' s r' => ?_⟩
          cases r'
          exact ⟨_, rfl, q _ _ hk ((((l.trans l2).trans l3).trans l4).trans (Later.of_same fr.gh l4.w s))⟩
      | [], _, hc => simp [chkE] at hc
      | [_], _, hc => simp [chkE] at hc
      | _ :: _ :: _ :: _, _, hc => simp [chkE] at hc
      | [_, _], [], hc => simp [chkE] at hc
      | [_, _], [_], hc => simp [chkE] at hc
      | [_, _], _ :: _ :: _ :: _, hc => simp [chkE] at hc
    | _ => simp [chkE] at hc
  | .var i, e, hc => by
    have P := sE h true (.var i) e hc
    have hp : plainTest e = true := by cases e <;> first | rfl | (simp [chkE] at hc)
    refine PT.imp (pt_val P (test_eq hp)) fun σ H Q ⟨Γ, δ, O, k, x, fr, hev, q, hx⟩ => ?_
    simp only [evT] at hev
    split at hev
    · rename_i b e1
      refine ⟨Γ, δ, O, fun d => d = .bool b ∧ k b, x, fr, by simp [ev, e1, hev], fun d v H1 ⟨e2, hk⟩ l rp => ?_, hx⟩
      subst e2
      cases rp
      exact ⟨b, rfl, q _ _ hk l⟩
    · exact hev.elim
  | .call f r, e, hc => by
    have P := sE h true (.call f r) e hc
    have hp : plainTest e = true := by cases e <;> first | rfl | (simp [chkE] at hc)
    refine PT.imp (pt_val P (test_eq hp)) fun σ H Q ⟨Γ, δ, O, k, x, fr, hev, q, hx⟩ => ?_
    simp only [evT] at hev
    refine ⟨Γ, δ, O, fun d => ∃ b, d = .bool b ∧ k b, x, fr, by simpa [ev] using hev, fun d v H1 ⟨b, e2, hk⟩ l rp => ?_, hx⟩
    subst e2
    cases rp
    exact ⟨b, rfl, q _ _ hk l⟩
  | .const d, e, hc => by
    have P := sE h true (.const d) e hc
    have hp : plainTest e = true := by cases e <;> first | rfl | (simp [chkE] at hc)
    refine PT.imp (pt_val P (test_eq hp)) fun σ H Q ⟨Γ, δ, O, k, x, fr, hev, q, hx⟩ => ?_
    cases d with
    | bool b =>
      simp only [evT] at hev
      refine ⟨Γ, δ, O, fun d => d = .bool b ∧ k b, x, fr, by simp [ev, hev], fun d v H1 ⟨e2, hk⟩ l rp => ?_, hx⟩
      subst e2
      cases rp
      exact ⟨b, rfl, q _ _ hk l⟩
    | _ => simp [evT] at hev
  | .ifx _ _ _, e, hc => ⟨fun pins s σ H Q I ⟨Γ, δ, O, k, x, fr, hev, q, hx⟩ => by simp [evT] at hev⟩
  | .tup _, e, hc => ⟨fun pins s σ H Q I ⟨Γ, δ, O, k, x, fr, hev, q, hx⟩ => by simp [evT] at hev⟩
  | .lst _, e, hc => ⟨fun pins s σ H Q I ⟨Γ, δ, O, k, x, fr, hev, q, hx⟩ => by simp [evT] at hev⟩
  | .glob _, e, hc => ⟨fun pins s σ H Q I ⟨Γ, δ, O, k, x, fr, hev, q, hx⟩ => by simp [evT] at hev⟩
  | .slc _ _ _, e, hc => ⟨fun pins s σ H Q I ⟨Γ, δ, O, k, x, fr, hev, q, hx⟩ => by simp [evT] at hev⟩
  | .comp _ _ _ _ _, e, hc => ⟨fun pins s σ H Q I ⟨Γ, δ, O, k, x, fr, hev, q, hx⟩ => by simp [evT] at hev⟩
  | .nil, e, hc => by simp [chkE] at hc
  | .cons _ _, e, hc => by simp [chkE] at hc
  | .nopart, e, hc => by simp [chkE] at hc
  | .iter _, e, hc => by simp [chkE] at hc
  | .range1 _, e, hc => by simp [chkE] at hc
  | .range2 _ _, e, hc => by simp [chkE] at hc
  | .zip2 _ _, e, hc => by simp [chkE] at hc
  | .enum _, e, hc => by simp [chkE] at hc
  | .zip2s _ _, e, hc => by simp [chkE] at hc
  | .dset _ _, e, hc => ⟨fun pins s σ H Q I ⟨Γ, δ, O, k, x, fr, hev, q, hx⟩ => by simp [evT] at hev⟩
  | .comp2 _ _ _ _ _ _ _ _, e, hc => ⟨fun pins s σ H Q I ⟨Γ, δ, O, k, x, fr, hev, q, hx⟩ => by simp [evT] at hev⟩
  | .disp _ _, e, hc => ⟨fun pins s σ H Q I ⟨Γ, δ, O, k, x, fr, hev, q, hx⟩ => by simp [evT] at hev⟩
  | .getG _ _, e, hc => ⟨fun pins s σ H Q I ⟨Γ, δ, O, k, x, fr, hev, q, hx⟩ => by simp [evT] at hev⟩
  | .inG neg a y, e, hc => by
    obtain ⟨ea, op, z, pz, p, rfl, h0, rfl, h1, h2, h4⟩ := inv_inG hc
    refine ⟨fun pins s σ H Q I ⟨Γ, δ, O, k, x, fr, hev, q, hx⟩ => ?_⟩
    simp only [evT] at hev
    obtain ⟨es, e1, hev⟩ := hev
    obtain ⟨d, ens, n', m, KD, look⟩ := h.stat.gd z es e1
    have PG := pe_glob (X := X) (pos := pz) (v := .ref d) (h.site.gl h1) m rfl (plain_dbg h2).1
    cases neg with
    | false =>
      subst h0
      refine (pt_cmpR (pos := p) (op_in_kd KD) (sE h true a ea h4) PG rfl).run pins s σ H Q I ?_
      refine ⟨Γ, δ, O, _, x, fr, hev, fun dd v H1 ⟨t, ed, hk⟩ l rp => ?_, hx⟩
      subst ed
      have rp' := Vr.not_list rp (fun _ z => by cases z)
      cases rp'
      obtain ⟨r, hr, hs, hv⟩ := look t
      rw [hs] at hk
      exact ⟨t, r, rfl, rfl, hr, _, rfl, q _ _ hk l⟩
    | true =>
      subst h0
      refine (pt_cmpR (pos := p) (op_notIn_kd KD) (sE h true a ea h4) PG rfl).run pins s σ H Q I ?_
      refine ⟨Γ, δ, O, _, x, fr, hev, fun dd v H1 ⟨t, ed, hk⟩ l rp => ?_, hx⟩
      subst ed
      have rp' := Vr.not_list rp (fun _ z => by cases z)
      cases rp'
      obtain ⟨r, hr, hs, hv⟩ := look t
      rw [hs] at hk
      exact ⟨t, r, rfl, rfl, hr, _, rfl, q _ _ hk l⟩
termination_by c => 8 * sizeOf c + 2
theorem sW {X : Cx} {sc : Scope} {W : WX} (h : Here X F N sc C xr n W) : ∀ (c : CE) (e : Expr), chkE F N c sc e = true → ((∃ a r, c = .and_ a r) ∨ ∃ a r, c = .or_ a r) → PW X e (tT (kwOf X) xr C W c)
  | .and_ a r, e, hc, _ => by
    cases e with
    | BoolOp op es p =>
      cases op with
      | And =>
        match es, hc with
        | e1 :: e2 :: es, hc =>
          simp only [chkE, Bool.and_eq_true] at hc
          have R : PW X (.BoolOp .And (e2 :: es) p) (tT (kwOf X) xr C W r) := by
            cases es with
            | nil => exact pw_and1 (sT h r e2 hc.2)
            | cons e3 es =>
              have hr := hc.2
              refine sW h r _ hr ?_
              cases r <;> first | exact .inl ⟨_, _, rfl⟩ | (simp [chkE] at hr; done) | (simp only [chkE] at hr; rename_i o _; cases o <;> simp [chkOp1, chkOp2] at hr; done) | (simp only [chkE] at hr; rename_i o _ _; cases o <;> simp [chkOp1, chkOp2] at hr; done)
          refine PW.imp (pw_and (pos := p) (sT h a e1 hc.1) R) fun σ H Q ⟨Γ, δ, O, k, x, fr, hev, q, hx⟩ => ?_
          simp only [evT] at hev
          refine ⟨Γ, δ, O, _, x, fr, hev, fun b H1 hk l => ?_, hx⟩
          cases b with
          | false => exact q _ _ hk l
          | true => exact ⟨Γ, δ, O, k, x, fr.later l, hk, fun b H2 hk l2 => q b H2 hk (l.trans l2), hx.later l⟩
        | [], hc => simp [chkE] at hc
        | [_], hc => simp [chkE] at hc
      | Or => simp [chkE] at hc
    | _ => simp [chkE] at hc
  | .or_ a r, e, hc, _ => by
    cases e with
    | BoolOp op es p =>
      cases op with
      | Or =>
        match es, hc with
        | e1 :: e2 :: es, hc =>
          simp only [chkE, Bool.and_eq_true] at hc
          have R : PW X (.BoolOp .Or (e2 :: es) p) (tT (kwOf X) xr C W r) := by
            cases es with
            | nil => exact pw_or1 (sT h r e2 hc.2)
            | cons e3 es =>
              have hr := hc.2
              refine sW h r _ hr ?_
              cases r <;> first | exact .inr ⟨_, _, rfl⟩ | (simp [chkE] at hr; done) | (simp only [chkE] at hr; rename_i o _; cases o <;> simp [chkOp1, chkOp2] at hr; done) | (simp only [chkE] at hr; rename_i o _ _; cases o <;> simp [chkOp1, chkOp2] at hr; done)
          refine PW.imp (pw_or (pos := p) (sT h a e1 hc.1) R) fun σ H Q ⟨Γ, δ, O, k, x, fr, hev, q, hx⟩ => ?_
          simp only [evT] at hev
          refine ⟨Γ, δ, O, _, x, fr, hev, fun b H1 hk l => ?_, hx⟩
          cases b with
          | true => exact q _ _ hk l
          | false => exact ⟨Γ, δ, O, k, x, fr.later l, hk, fun b H2 hk l2 => q b H2 hk (l.trans l2), hx.later l⟩
        | [], hc => simp [chkE] at hc
        | [_], hc => simp [chkE] at hc
      | And => simp [chkE] at hc
    | _ => simp [chkE] at hc
  | .const _, _, _, hh => by rcases hh with ⟨_, _, z⟩ | ⟨_, _, z⟩ <;> cases z
  | .var _, _, _, hh => by rcases hh with ⟨_, _, z⟩ | ⟨_, _, z⟩ <;> cases z
  | .glob _, _, _, hh => by rcases hh with ⟨_, _, z⟩ | ⟨_, _, z⟩ <;> cases z
  | .nil, _, _, hh => by rcases hh with ⟨_, _, z⟩ | ⟨_, _, z⟩ <;> cases z
  | .cons _ _, _, _, hh => by rcases hh with ⟨_, _, z⟩ | ⟨_, _, z⟩ <;> cases z
  | .tup _, _, _, hh => by rcases hh with ⟨_, _, z⟩ | ⟨_, _, z⟩ <;> cases z
  | .lst _, _, _, hh => by rcases hh with ⟨_, _, z⟩ | ⟨_, _, z⟩ <;> cases z
  | .op1 _ _, _, _, hh => by rcases hh with ⟨_, _, z⟩ | ⟨_, _, z⟩ <;> cases z
  | .op2 _ _ _, _, _, hh => by rcases hh with ⟨_, _, z⟩ | ⟨_, _, z⟩ <;> cases z
  | .slc _ _ _, _, _, hh => by rcases hh with ⟨_, _, z⟩ | ⟨_, _, z⟩ <;> cases z
  | .nopart, _, _, hh => by rcases hh with ⟨_, _, z⟩ | ⟨_, _, z⟩ <;> cases z
  | .chain _ _ _ _ _, _, _, hh => by rcases hh with ⟨_, _, z⟩ | ⟨_, _, z⟩ <;> cases z
  | .not_ _, _, _, hh => by rcases hh with ⟨_, _, z⟩ | ⟨_, _, z⟩ <;> cases z
  | .ifx _ _ _, _, _, hh => by rcases hh with ⟨_, _, z⟩ | ⟨_, _, z⟩ <;> cases z
  | .call _ _, _, _, hh => by rcases hh with ⟨_, _, z⟩ | ⟨_, _, z⟩ <;> cases z
  | .comp _ _ _ _ _, _, _, hh => by rcases hh with ⟨_, _, z⟩ | ⟨_, _, z⟩ <;> cases z
  | .iter _, _, _, hh => by rcases hh with ⟨_, _, z⟩ | ⟨_, _, z⟩ <;> cases z
  | .range1 _, _, _, hh => by rcases hh with ⟨_, _, z⟩ | ⟨_, _, z⟩ <;> cases z
  | .range2 _ _, _, _, hh => by rcases hh with ⟨_, _, z⟩ | ⟨_, _, z⟩ <;> cases z
  | .zip2 _ _, _, _, hh => by rcases hh with ⟨_, _, z⟩ | ⟨_, _, z⟩ <;> cases z
  | .enum _, _, _, hh => by rcases hh with ⟨_, _, z⟩ | ⟨_, _, z⟩ <;> cases z
  | .zip2s _ _, _, _, hh => by rcases hh with ⟨_, _, z⟩ | ⟨_, _, z⟩ <;> cases z
  | .dset _ _, _, _, hh => by rcases hh with ⟨_, _, z⟩ | ⟨_, _, z⟩ <;> cases z
  | .comp2 _ _ _ _ _ _ _ _, _, _, hh => by rcases hh with ⟨_, _, z⟩ | ⟨_, _, z⟩ <;> cases z
  | .disp _ _, _, _, hh => by rcases hh with ⟨_, _, z⟩ | ⟨_, _, z⟩ <;> cases z
  | .getG _ _, _, _, hh => by rcases hh with ⟨_, _, z⟩ | ⟨_, _, z⟩ <;> cases z
  | .inG _ _ _, _, _, hh => by rcases hh with ⟨_, _, z⟩ | ⟨_, _, z⟩ <;> cases z
termination_by c => 8 * sizeOf c + 1
theorem sI {X : Cx} {sc : Scope} {W : WX} (h : Here X F N sc C xr n W) (rd : Bool) : ∀ (c : CE) (tg e : Expr), chkI F N c sc tg e = true → PI X tg e (tI (kwOf X) xr C W rd c)
  | .iter a, tg, e, hc => by
    simp only [chkI] at hc
    refine PI.imp (pi_any (sE h rd a e hc)) fun σ H R ⟨Γ, δ, O, k, x, fr, hev, q, hx⟩ => ?_
    simp only [evI] at hev
    refine ⟨Γ, δ, O, _, x, fr, hev, fun d v H1 ⟨xs, e1, hk⟩ l rp => ?_, hx⟩
    cases d with
    | list ds =>
      cases e1
      have rp' := Vr.r fr.m rp
      obtain ⟨a, us, rfl, _⟩ := id rp'
      obtain ⟨vs, h1, h2⟩ := Vr.lst rp
      refine .inl ⟨a, vs, rfl, ?_, q _ _ _ hk l (walk_of_list fr.m h1 h2)⟩
      rcases h1 with ⟨_, h1⟩ | ⟨_, h1⟩ <;> exact h1.sq
    | tuple ds =>
      cases e1
      have rp' := Vr.not_list rp (fun _ z => by cases z)
      cases rp' with
      | tup h1 h2 => exact .inr (.inl ⟨_, _, rfl, h1.sq, q _ _ _ hk l (walk_of_tup h1 h2)⟩)
    | str z =>
      cases e1
      have rp' := Vr.not_list rp (fun _ z => by cases z)
      cases rp'
      exact .inr (.inr ⟨z, rfl, q _ _ _ hk l walk_of_str⟩)
    | _ => simp [itemsD] at e1
  | .range1 a, tg, e, hc => by
    cases e with
    | Call fe es kws p =>
      cases fe with
      | Name y py =>
        match es, kws, hc with
        | [ea], [], hc =>
          simp only [chkI, Bool.and_eq_true, decide_eq_true_eq] at hc
          obtain ⟨⟨⟨rfl, h1⟩, h2⟩, h3⟩ := hc
          refine PI.imp (pi_range1 (p := py) (pos := p) (h.site.gl h1) (h.site.blt _ (by decide +kernel)) (pa_cons (sE h rd a ea h3) pa_nil (star_cons h2)) (star_cons h2)) fun σ H R ⟨Γ, δ, O, k, x, fr, hev, q, hx⟩ => ?_
          simp only [evI] at hev
          refine ⟨Γ, δ, O, _, x, fr, hev, fun d v H1 ⟨m, e1, hb, hk⟩ l rp => ?_, hx⟩
          subst e1
          have rp' := Vr.not_list rp (fun _ z => by cases z)
          cases rp'
          refine ⟨m, rfl, hb.1, hb.2, q _ _ _ hk l ?_⟩
          have := walk_of_range (K := (kwOf X)) (Γ := Γ) (O := O) (H := H1) (rd := rd) (lo := 0) (hi := m)
          rw [show plainIt (.range1 a) = true from rfl]
          simpa using this
        | [], _, hc => simp [chkI] at hc
        | [_], _ :: _, hc => simp [chkI] at hc
        | _ :: _ :: _, _, hc => simp [chkI] at hc
      | _ => simp [chkI] at hc
    | _ => simp [chkI] at hc
  | .range2 a b, tg, e, hc => by
    cases e with
    | Call fe es kws p =>
      cases fe with
      | Name y py =>
        match es, kws, hc with
        | [ea, eb], [], hc =>
          simp only [chkI, Bool.and_eq_true, decide_eq_true_eq] at hc
          obtain ⟨⟨⟨⟨⟨rfl, h1⟩, h2⟩, h2'⟩, h3⟩, h4⟩ := hc
          refine PI.imp (pi_range2 (p := py) (pos := p) (h.site.gl h1) (h.site.blt _ (by decide +kernel)) (pa_cons (sE h rd a ea h3) (pa_cons (sE h rd b eb h4) pa_nil (star_cons h2')) (star_cons h2)) (by rw [star_cons h2, star_cons h2']; rfl) (star_cons h2')) fun σ H R ⟨Γ, δ, O, k, x, fr, hev, q, hx⟩ => ?_
          simp only [evI] at hev
          refine ⟨Γ, δ, O, _, x, fr, hev, fun d v H1 hk l rp => ?_, hx⟩
          refine ⟨Γ, δ, O, _, x, fr.later l, hk, fun d' v' H2 ⟨m, m', e1, e2, hb, hk2⟩ l2 rp2 => ?_, hx.later l⟩
          subst e1 e2
          have rp' := Vr.not_list rp (fun _ z => by cases z)
          have rp2' := Vr.not_list rp2 (fun _ z => by cases z)
          cases rp'; cases rp2'
          exact ⟨m, m', rfl, hb, q _ _ _ hk2 (l.trans l2) walk_of_range⟩
        | [], _, hc => simp [chkI] at hc
        | [_], _, hc => simp [chkI] at hc
        | [_, _], _ :: _, hc => simp [chkI] at hc
        | _ :: _ :: _ :: _, _, hc => simp [chkI] at hc
      | _ => simp [chkI] at hc
    | _ => simp [chkI] at hc
  | .zip2 a b, tg, e, hc => by
    cases e with
    | Call fe es kws p =>
      cases fe with
      | Name y py =>
        match es, kws, hc with
        | [ea, eb], [], hc =>
          simp only [chkI, Bool.and_eq_true, decide_eq_true_eq] at hc
          obtain ⟨⟨⟨⟨⟨⟨h0, rfl⟩, h1⟩, h2⟩, h2'⟩, h3⟩, h4⟩ := hc
          cases tg with
          | Tuple elts kk tpos =>
            refine PI.imp (RZ.pi_zipA (p := py) (pos := p) (h.site.gl h1) (h.site.blt _ (by decide +kernel)) (pa_cons (sE h rd a ea h3) (pa_cons (sE h rd b eb h4) pa_nil (star_cons h2')) (star_cons h2)) (star_cons h2) (stars_any (by simp [notStars, h2']))) fun σ H R ⟨Γ, δ, O, k, x, fr, hev, q, hx⟩ => ?_
            simp only [evI] at hev
            refine ⟨Γ, δ, O, _, x, fr, hev, fun d v H1 hk l rp => ?_, hx⟩
            have f1 := fr.later l
            refine ⟨Γ, δ, O, _, x, f1, hk, fun d' v' H2 ⟨xs, ys, ee, hk2⟩ l2 rp2 => ?_, hx.later l⟩
            have f2 := f1.later l2
            rcases ee with ⟨rfl, rfl⟩ | ⟨rfl, rfl⟩
            · have rpl : Vr (kwOf X) Γ rd H2 O v (.list xs) := by
                cases rd with
                | true => exact RRep.later f1 l2 (d := .list xs) rp
                | false => exact Rep.ext (f1.ext l2) _ _ rp
              obtain ⟨a1, us1, rfl, _⟩ := Vr.r fr.m rpl
              obtain ⟨a2, us2, rfl, _⟩ := Vr.r fr.m rp2
              obtain ⟨vs1, h1, h1'⟩ := Vr.lst rpl
              obtain ⟨vs2, h2, h2'⟩ := Vr.lst rp2
              refine ⟨a1, a2, vs1, vs2, rfl, .inl ⟨?_, ?_, q _ _ _ hk2 (l.trans l2) (walk_of_zip fr.m h1 h2 h1' h2')⟩⟩
              · rcases h1 with ⟨_, h1⟩ | ⟨_, h1⟩ <;> exact h1.sq
              · rcases h2 with ⟨_, h2⟩ | ⟨_, h2⟩ <;> exact h2.sq
            · have rp1' := Rep.ext (f1.ext l2) _ _ (Vr.not_list rp (fun _ z => by cases z))
              have rp2' := Vr.not_list rp2 (fun _ z => by cases z)
              cases rp1' with
              | tup t1 r1 =>
                cases rp2' with
                | tup t2 r2 => exact ⟨_, _, _, _, rfl, .inr ⟨t1.sq, t2.sq, q _ _ _ hk2 (l.trans l2) (walk_of_zipT t1 t2 r1 r2)⟩⟩
          | _ => simp [isTup] at h0
        | [], _, hc => simp [chkI] at hc
        | [_], _, hc => simp [chkI] at hc
        | [_, _], _ :: _, hc => simp [chkI] at hc
        | _ :: _ :: _ :: _, _, hc => simp [chkI] at hc
      | _ => simp [chkI] at hc
    | _ => simp [chkI] at hc
  | .enum a, tg, e, hc => by
    cases e with
    | Call fe es kws p =>
      cases fe with
      | Name y py =>
        match es, kws, hc with
        | [ea], [], hc =>
          simp only [chkI, Bool.and_eq_true, decide_eq_true_eq] at hc
          obtain ⟨⟨⟨⟨h0, rfl⟩, h1⟩, h2⟩, h3⟩ := hc
          cases tg with
          | Tuple elts kk tpos =>
            refine PI.imp (pi_enum (p := py) (pos := p) (h.site.gl h1) (h.site.blt _ (by decide +kernel)) (pa_cons (sE h rd a ea h3) pa_nil (star_cons h2)) (star_cons h2)) fun σ H R ⟨Γ, δ, O, k, x, fr, hev, q, hx⟩ => ?_
            simp only [evI] at hev
            refine ⟨Γ, δ, O, _, x, fr, hev, fun d v H1 ⟨xs, e1, hk⟩ l rp => ?_, hx⟩
            subst e1
            have rp' := Vr.r fr.m rp
            obtain ⟨a, us, rfl, _⟩ := id rp'
            obtain ⟨vs, h1, h2⟩ := Vr.lst rp
            refine ⟨a, vs, rfl, ?_, q _ _ _ hk l (walk_of_enum fr.m h1 h2)⟩
            rcases h1 with ⟨_, h1⟩ | ⟨_, h1⟩ <;> exact h1.sq
          | _ => simp [isTup] at h0
        | [], _, hc => simp [chkI] at hc
        | [_], _ :: _, hc => simp [chkI] at hc
        | _ :: _ :: _, _, hc => simp [chkI] at hc
      | _ => simp [chkI] at hc
    | _ => simp [chkI] at hc
  | .const _, _, _, hc => by simp [chkI] at hc
  | .var _, _, _, hc => by simp [chkI] at hc
  | .glob _, _, _, hc => by simp [chkI] at hc
  | .nil, _, _, hc => by simp [chkI] at hc
  | .cons _ _, _, _, hc => by simp [chkI] at hc
  | .tup _, _, _, hc => by simp [chkI] at hc
  | .lst _, _, _, hc => by simp [chkI] at hc
  | .op1 _ _, _, _, hc => by simp [chkI] at hc
  | .op2 _ _ _, _, _, hc => by simp [chkI] at hc
  | .slc _ _ _, _, _, hc => by simp [chkI] at hc
  | .nopart, _, _, hc => by simp [chkI] at hc
  | .chain _ _ _ _ _, _, _, hc => by simp [chkI] at hc
  | .and_ _ _, _, _, hc => by simp [chkI] at hc
  | .or_ _ _, _, _, hc => by simp [chkI] at hc
  | .not_ _, _, _, hc => by simp [chkI] at hc
  | .ifx _ _ _, _, _, hc => by simp [chkI] at hc
  | .call _ _, _, _, hc => by simp [chkI] at hc
  | .comp _ _ _ _ _, _, _, hc => by simp [chkI] at hc
  | .dset _ _, _, _, hc => by simp [chkI] at hc
  | .comp2 _ _ _ _ _ _ _ _, _, _, hc => by simp [chkI] at hc
  | .disp _ _, _, _, hc => by simp [chkI] at hc
  | .getG _ _, _, _, hc => by simp [chkI] at hc
  | .inG _ _ _, _, _, hc => by simp [chkI] at hc
  | .zip2s a b, tg, e, hc => by
    obtain ⟨py, ea, eb, ck, cp, kp, p, rfl, h0, h1, h2, h2', h3, h4⟩ := inv_zs hc
    cases tg with
    | Tuple elts kk tpos =>
      refine PI.imp (Zs.pi_zipS (p := py) (pos := p) (h.site.gl h1) (h.site.blt _ (by decide +kernel)) (pa_cons (sE h rd a ea h3) (pa_cons (sE h rd b eb h4) pa_nil (star_cons h2')) (star_cons h2)) (star_cons h2) (stars_any (by simp [notStars, h2, h2']))) fun σ H R ⟨Γ, δ, O, k, x, fr, hev, q, hx⟩ => ?_
      simp only [evI] at hev
      refine ⟨Γ, δ, O, _, x, fr, hev, fun d v H1 hk l rp => ?_, hx⟩
      have f1 := fr.later l
      refine ⟨Γ, δ, O, _, x, f1, hk, fun d' v' H2 ⟨xs, ys, ee, hle, hk2⟩ l2 rp2 => ?_, hx.later l⟩
      have f2 := f1.later l2
      rcases ee with ⟨rfl, rfl⟩ | ⟨rfl, rfl⟩
      · have rpl : Vr (kwOf X) Γ rd H2 O v (.list xs) := by
          cases rd with
          | true => exact RRep.later f1 l2 (d := .list xs) rp
          | false => exact Rep.ext (f1.ext l2) _ _ rp
        obtain ⟨a1, us1, rfl, _⟩ := Vr.r fr.m rpl
        obtain ⟨a2, us2, rfl, _⟩ := Vr.r fr.m rp2
        obtain ⟨vs1, h1, h1'⟩ := Vr.lst rpl
        obtain ⟨vs2, h2, h2'⟩ := Vr.lst rp2
        refine ⟨a1, a2, vs1, vs2, rfl, .inl ⟨?_, ?_, q _ _ _ hk2 (l.trans l2) (walk_of_zs fr.m hle h1 h2 h1' h2')⟩⟩
        · rcases h1 with ⟨_, h1⟩ | ⟨_, h1⟩ <;> exact h1.sq
        · rcases h2 with ⟨_, h2⟩ | ⟨_, h2⟩ <;> exact h2.sq
      · have rp1' := Rep.ext (f1.ext l2) _ _ (Vr.not_list rp (fun _ z => by cases z))
        have rp2' := Vr.not_list rp2 (fun _ z => by cases z)
        cases rp1' with
        | tup t1 r1 =>
          cases rp2' with
          | tup t2 r2 => exact ⟨_, _, _, _, rfl, .inr ⟨t1.sq, t2.sq, q _ _ _ hk2 (l.trans l2) (walk_of_zsT hle t1 t2 r1 r2)⟩⟩
    | _ => simp [isTup] at h0
termination_by c => 8 * sizeOf c + 5
end
end
end Tk
namespace Tk
open PySem PySem.Spec PyProof.Rows L2
/-! ### a, b = x, y: are the stores swapped? -/
def swapNames (sc : Scope) (ts : List Expr) : List Str := ts.filterMap fun
  | .Name id pos => if sc.names.lookup id == some .local && pos.line == ((ts.head?.map (·.pos.line)).getD 0) then some id else none
  | _ => none
def kindB (sc : Scope) : ScopeKind := if sc.kind.isAnnotationScope then .function else sc.kind
def swapVal (sc : Scope) (ts vs : List Expr) : Option (Option (List Str)) :=
  if (!(ts.length == 2 || ts.length == 3) || vs.length != ts.length || kindB sc != .function) = true then some none
  else if (vs.any fun | .Starred .. => true | _ => false) = true then some none
  else if ((swapNames sc ts).length != ts.length || (swapNames sc ts).eraseDups.length != (swapNames sc ts).length) = true then some none
  else if vs.all (foldedForSure 8) = true then some none
  else if vs.all (constantsAlone 8) = true then none
  else some (some (swapNames sc ts))
theorem swap_eq {env : Env} {ts vs : List Expr} {k k2 : Nat} {p p2 : Pos} {r : Option (List Str)} (h : swapVal env.scope ts vs = some r) : swappedStores [.Tuple ts k p] (.Tuple vs k2 p2) env = pure r := by
  unfold swapVal at h
  show (if (!(ts.length == 2 || ts.length == 3) || vs.length != ts.length || kindB env.scope != .function) = true then pure none else
    if (vs.any fun | .Starred .. => true | _ => false) = true then pure none else
    if ((swapNames env.scope ts).length != ts.length || (swapNames env.scope ts).eraseDups.length != (swapNames env.scope ts).length) = true then pure none else
    if vs.all (foldedForSure 8) = true then pure none else
    if vs.all (constantsAlone 8) = true then (do let _ ← (unsupported "assign.tuple-of-constant-expressions:order-of-the-stores" : Sem PUnit); pure (some (swapNames env.scope ts))) else pure (some (swapNames env.scope ts)) : Sem (Option (List Str))) = pure r
  split at h
  · rename_i c; rw [if_pos c]; cases h; rfl
  · rename_i c; rw [if_neg c]
    split at h
    · rename_i c; rw [if_pos c]; cases h; rfl
    · rename_i c; rw [if_neg c]
      split at h
      · rename_i c; rw [if_pos c]; cases h; rfl
      · rename_i c; rw [if_neg c]
        split at h
        · rename_i c; rw [if_pos c]; cases h; rfl
        · rename_i c; rw [if_neg c]
          split at h
          · cases h
          · rename_i c; rw [if_neg c]; cases h; rfl
def swapFree (sc : Scope) (tg e : Expr) : Bool := match tg, e with
  | .Tuple ts _ _, .Tuple vs _ _ => decide (swapVal sc ts vs = some none)
  | .List _ _, .Tuple _ _ _ => false
  | _, _ => true
theorem swapFree_ok {env : Env} {tg e : Expr} (h : swapFree env.scope tg e = true) : swappedStores [tg] e env = pure none := by
  cases tg with
  | Tuple ts k p =>
    cases e with
    | Tuple vs k2 p2 => exact swap_eq (of_decide_eq_true h)
    | _ => rfl
  | List ts p =>
    cases e with
    | Tuple vs k2 p2 => simp [swapFree] at h
    | _ => rfl
  | _ => rfl
def notComp : Expr → Bool
  | .ListComp .. => false
  | .SetComp .. => false
  | .DictComp .. => false
  | _ => true
theorem swapsWith_free {e : Expr} {t : Option Expr} {l : Nat} {env : Env} (h : notComp e = true) : swapsWith e t l env = pure false := by
  cases e <;> first | rfl | (simp [notComp] at h)
/-- a comprehension that isn't given to a local name -/
def compFree (sc : Scope) (tg e : Expr) : Bool := match tg, e with
  | .Name t pos, .ListComp _ _ s p => !(kindB sc == .function && sc.names.lookup t == some .local && pos.line == p.line && !(s.names.any fun (n, k) => n == t && (k == .local || k == .cell)))
  | _, .ListComp .. => true
  | _, .SetComp .. => false
  | .Name t pos, .DictComp _ _ _ s p => !(kindB sc == .function && sc.names.lookup t == some .local && pos.line == p.line && !(s.names.any fun (n, k) => n == t && (k == .local || k == .cell)))
  | _, .DictComp .. => true
  | _, _ => true
theorem compFree_ok {env : Env} {tg e : Expr} {l : Nat} (h : compFree env.scope tg e = true) : swapsWithSole [tg] e l env = pure false := by
  show swapsWith e (some tg) l env = pure false
  cases e with
  | ListComp elt gs s p =>
    cases tg with
    | Name t pos =>
      simp only [compFree, Bool.not_eq_true'] at h
      exact congrArg pure h
    | _ => rfl
  | SetComp _ _ _ _ => cases tg <;> simp [compFree] at h
  | DictComp _ _ _ _ _ =>
    cases tg with
    | Name t pos =>
      simp only [compFree, Bool.not_eq_true'] at h
      exact congrArg pure h
    | _ => rfl
  | _ => rfl
/-- a comprehension that is given to a local name on its line -/
def lcTrue (sc : Scope) : Expr → Expr → Bool
  | .Name y py, .ListComp _ _ s p => decide (sc.kind = .function) && decide (sc.names.lookup y = some .local) && (py.line == p.line) && !(s.names.any fun (n, k) => n == y && (k == .local || k == .cell))
  | .Name y py, .DictComp _ _ _ s p => decide (sc.kind = .function) && decide (sc.names.lookup y = some .local) && (py.line == p.line) && !(s.names.any fun (n, k) => n == y && (k == .local || k == .cell))
  | _, _ => false
theorem sw_trueD {kx vx : Expr} {gs : List Comprehension} {scope : Scope} {pos py : Pos} {y : Str} {l : Nat} {env : Env} (hk : env.scope.kind = .function) (hy : env.scope.names.lookup y = some .local) (hl : (py.line == pos.line) = true)
    (ha : (scope.names.any fun (n, k) => n == y && (k == .local || k == .cell)) = false) : swapsWith (.DictComp kx vx gs scope pos) (some (.Name y py)) l env = pure true := by
  have ky : env.kindOf y = some .local := hy
  have hb : env.blockKind = .function := by unfold Env.blockKind; rw [hk]; rfl
  unfold swapsWith
  simp only [hb, ky, ha, Expr.pos, hl]
  rfl
def parN (N : List Str) (sc : Scope) (i : Nat) (x : Str) : Bool := decide (N[i]? = some x) && decide (sc.names.lookup x = some .local)
def parNs (N : List Str) (sc : Scope) (fn : Str → Bool) : List Nat → List Expr → Bool
  | [], [] => true
  | i :: is, .Name x p :: ts => chkT N sc fn (.name i) (.Name x p) && parNs N sc fn is ts
  | _, _ => false
def parTup (N : List Str) (sc : Scope) (fn : Str → Bool) (is : List Nat) : Expr → Expr → Bool
  | .Tuple ts _ _, .Tuple vs _ _ => parNs N sc fn is ts && decide (ts.length ≤ 20) && decide (swapVal sc ts vs = some none)
  | _, _ => false
def parChk (N : List Str) (sc : Scope) : List Nat → Expr → Expr → Bool
  | [i, j], .Tuple [.Name x px, .Name y py] _ _, .Tuple [a, b] _ _ => parN N sc i x && parN N sc j y && decide (i ≠ j) && decide (swapVal sc [.Name x px, .Name y py] [a, b] = some (some [x, y]))
  | [i, j, l], .Tuple [.Name x px, .Name y py, .Name z pz] _ _, .Tuple [a, b, c] _ _ => parN N sc i x && parN N sc j y && parN N sc l z && decide (i ≠ j) && decide (i ≠ l) && decide (j ≠ l) && decide (swapVal sc [.Name x px, .Name y py, .Name z pz] [a, b, c] = some (some [x, y, z]))
  | _, _, _ => false
/-! ### the look at statements -/
mutual
def chkS (F : FT) (N : List Str) (sc : Scope) (fn : Str → Bool) : CS → Stmt → Bool
  | .nop, .Pass _ => true
  | .expr e, .Expr ee _ => notComp ee && chkE F N e sc ee
  | .ret e, .Return (some ee) _ => chkE F N e sc ee
  | .retO e, .Return (some ee) _ => chkE F N e sc ee
  | .retV i, .Return (some ee) _ => chkE F N (.var i) sc ee
  | .retN, .Return none _ => true
  | .asg t e, .Assign [tg] ee _ => notStar tg && chkT N sc fn t tg && swapFree sc tg ee && compFree sc tg ee && chkE F N e sc ee
  | .asgO i e, .Assign [tg] ee _ => chkT N sc fn (.name i) tg && chkE F N e sc ee && (compFree sc tg ee || lcTrue sc tg ee)
  | .par is es, .Assign [tg] ee _ => (parChk N sc is tg ee || parTup N sc fn is tg ee) && (match ee with | .Tuple vs _ _ => chkA F N es sc vs | _ => false)
  | .app i e, .Expr (.Call (.Attribute (.Name y py) m ap) [ea] [] p) _ => chkE F N (.var i) sc (.Name y py) && decide (m = "append") && notStar ea && (ap.endLine == p.line) && chkE F N e sc ea
  | .ite c a b, .If ec sa sb _ => chkE F N c sc ec && chkSs F N sc fn a sa && chkSs F N sc fn b sb
  | .for_ t it b, .For tg ie body orelse _ => orelse.isEmpty && notSet ie && chkI F N it sc tg ie && chkT N sc fn t tg && chkSs F N sc fn b body
  | .while_ c b, .While ec body orelse _ => orelse.isEmpty && chkE F N c sc ec && chkSs F N sc fn b body
  | .brk, .Break _ => true
  | .cnt, .Continue _ => true
  | .never, _ => true
  | _, _ => false
def chkSs (F : FT) (N : List Str) (sc : Scope) (fn : Str → Bool) : CS → List Stmt → Bool
  | .nop, [] => true
  | .seq (.frz _) b, sts => chkSs F N sc fn b sts
  | .seq a b, st :: sts => chkS F N sc fn a st && chkSs F N sc fn b sts
  | _, _ => false
end
theorem Ext.trans {H H1 H2 : Hp} {O O1 O2 : Addr → Prop} (a : Ext H H1 O O1) (b : Ext H1 H2 O1 O2) : Ext H H2 O O2 := by
  refine ⟨fun c u h n => b.keep c u (a.keep c u h n) fun z => ?_, fun c h => ?_, fun c xs h => b.tup c xs (a.tup c xs h), fun c o u h => b.frz c o u (a.frz c o u h)⟩
  · rcases a.new c z with z | z
    · exact n z
    · rw [z] at h; cases h
  · rcases b.new c h with z | z
    · exact a.new c z
    · cases q : H c with
      | none => exact .inr rfl
      | some u =>
        by_cases m : O c
        · exact .inl m
        · rw [a.keep c u q m] at z; cases z
/-- what is handed back -/
structure RetOk (K : KW) (Γ : Gh) (H : Hp) (s : Slot) (v : V) : Prop where
  same : SameM Γ Γ.H0 H
  w : Γ.W H
  rep : ∃ O, (∀ b, Γ.O0 b → O b) ∧ SRep K Γ H O s v
/-- what is wanted behind a statement, from the heap and the avoided ones ahead of it -/
structure EnOk (K : KW) (xr : XRep) (W : WX) (Γ : Gh) (H : Hp) (O : Addr → Prop) (B : Ends) (E : En) : Prop where
  nx : ∀ δ' σ' H' O', E.nx δ' → Fr K Γ δ' σ' H' O' → Ext H H' O O' → B.nx σ' H'
  rt : ∀ s v H', E.rt s → RetOk K Γ H' s v → B.rt v H'
  bk : ∀ δ' σ' H' O', E.bk δ' → Fr K Γ δ' σ' H' O' → Ext H H' O O' → B.bk σ' H'
  ct : ∀ δ' σ' H' O', E.ct δ' → Fr K Γ δ' σ' H' O' → Ext H H' O O' → B.ct σ' H'
  xc : ∀ e δ' σ' H' O' cls dd, E.xc e δ' → Fr K Γ δ' σ' H' O' → xr H' O' e cls dd → W cls dd σ' H'
def tS (K : KW) (xr : XRep) (C : Cfg) (W : WX) (c : CS) : TS := fun B σ H => ∃ Γ δ O E, Fr K Γ δ σ H O ∧ ex C c δ E ∧ EnOk K xr W Γ H O B E
section
variable {K : KW} {xr : XRep} {C : Cfg} {W : WX} {Γ : Gh} {δ : Dl} {σ : L2.St} {H H1 : Hp} {O O1 : Addr → Prop} {B : Ends} {E : En}
theorem EnOk.ext (h : EnOk K xr W Γ H O B E) (x : Ext H H1 O O1) : EnOk K xr W Γ H1 O1 B E :=
  ⟨fun a b c d e f g => h.nx a b c d e f (x.trans g), h.rt, fun a b c d e f g => h.bk a b c d e f (x.trans g), fun a b c d e f g => h.ct a b c d e f (x.trans g), h.xc⟩
theorem EnOk.x (h : EnOk K xr W Γ H O B E) (fr : Fr K Γ δ σ H O) : XOk xr W Γ O σ H fun e => E.xc e δ := fun e cls dd H' a b c => h.xc e δ σ H' O cls dd a (fr.later b) c
theorem Fr.ret {s : Slot} {v : V} (fr : Fr K Γ δ σ H O) (r : SRep K Γ H O s v) : RetOk K Γ H s v := ⟨fr.same, fr.w, O, fr.sub, r⟩
/-- a list of one's own is let go -/
theorem Fr.freeze {i : Nat} {ds : List D} (fr : Fr K Γ δ σ H O) (h : δ[i]? = some (some (.own ds))) : ∃ O1, Fr K Γ (δ.set i (some (.val (.list ds)))) σ H O1 ∧ Ext H H O O1 := by
  obtain ⟨v, e, a, vs, rfl, e2, e3, e4, e5⟩ := fr.slot i _ h
  have x : Ext H H O (fun b => O b ∧ b ≠ a) := Ext.sub fun b z => z.1
  have hi : i < δ.length := (List.getElem?_eq_some_iff.mp h).1
  refine ⟨fun b => O b ∧ b ≠ a, ⟨fr.gh, by simp [fr.len], fr.same, fun b z => ⟨fr.sub b z, fun q => fr.gh.ot b z (by rw [q]; exact e4)⟩, fun b z => fr.otr b z.1, fr.w, fun j s hj => ?_, fun j k b ds' es' h1 h2 h3 h4 => ?_⟩, x⟩
  · by_cases q : i = j
    · subst q
      rw [List.getElem?_set_self hi] at hj
      cases hj
      exact ⟨_, e, .lst (.inl ⟨.inl e2, fun z => z.2 rfl⟩) (Reps.ext x ds vs e5)⟩
    · rw [List.getElem?_set_ne q] at hj
      obtain ⟨u, e1, r⟩ := fr.slot j s hj
      refine ⟨u, e1, ?_⟩
      cases s with
      | val d => exact Rep.ext x d u r
      | own es =>
        obtain ⟨b, us, rfl, f2, f3, f4, f5⟩ := r
        refine ⟨b, us, rfl, f2, ⟨f3, fun z => q ?_⟩, f4, Reps.ext x es us f5⟩
        subst z
        exact fr.dist i j b ds es h hj e e1
      | st => exact r
  · by_cases q : i = j
    · subst q; rw [List.getElem?_set_self hi] at h1; cases h1
    · by_cases q' : i = k
      · subst q'; rw [List.getElem?_set_self hi] at h2; cases h2
      · rw [List.getElem?_set_ne q] at h1
        rw [List.getElem?_set_ne q'] at h2
        exact fr.dist j k b ds' es' h1 h2 h3 h4
/-- a slot takes what is its own from now on -/
theorem Fr.setO {i : Nat} {s : Slot} {v : V} (fr : Fr K Γ δ σ H O) (hi : i < δ.length) (r : SRep K Γ H O s v) (hn : ∀ ds a, s = .own ds → v = .ref a → ∀ (j : Nat) es, δ[j]? = some (some (.own es)) → σ[j]? ≠ some (some (.ref a))) :
    Fr K Γ (δ.set i (some s)) (σ.set i (some v)) H O where
  gh := fr.gh
  len := by simp [fr.len]
  same := fr.same
  sub := fr.sub
  otr := fr.otr
  w := fr.w
  slot := fun j t h => by
    by_cases e : i = j
    · subst e
      rw [List.getElem?_set_self hi] at h
      cases h
      exact ⟨v, List.getElem?_set_self (by rw [← fr.len]; exact hi), r⟩
    · rw [List.getElem?_set_ne e] at h
      obtain ⟨u, e1, r1⟩ := fr.slot j t h
      exact ⟨u, by rw [List.getElem?_set_ne e]; exact e1, r1⟩
  dist := fun j k a ds es h1 h2 h3 h4 => by
    have hl : i < σ.length := by rw [← fr.len]; exact hi
    by_cases e : i = j
    · subst e
      by_cases e' : i = k
      · exact e'
      · rw [List.getElem?_set_self hi] at h1
        rw [List.getElem?_set_self hl] at h3
        rw [List.getElem?_set_ne e'] at h2 h4
        cases h1
        cases h3
        exact absurd h4 (hn ds a rfl rfl k es h2)
    · by_cases e' : i = k
      · subst e'
        rw [List.getElem?_set_self hi] at h2
        rw [List.getElem?_set_self hl] at h4
        rw [List.getElem?_set_ne e] at h1 h3
        cases h2
        cases h4
        exact absurd h3 (hn es a rfl rfl j ds h1)
      · rw [List.getElem?_set_ne e] at h1 h3
        rw [List.getElem?_set_ne e'] at h2 h4
        exact fr.dist j k a ds es h1 h2 h3 h4
end
end Tk
namespace Tk
open PySem PySem.Spec PyProof.Rows L2
section
variable {K : KW} {xr : XRep} {C : Cfg} {W : WX} {Γ : Gh} {δ : Dl} {σ : L2.St} {H H1 H' : Hp} {O O1 : Addr → Prop} {B : Ends} {E : En} {a : Addr}
theorem Fr.h0 (fr : Fr K Γ δ σ H O) (h : H a = none) : Γ.H0 a = none := by
  cases q : Γ.H0 a with
  | none => rfl
  | some u =>
    by_cases m : Γ.M a
    · exact absurd h (fr.gh.wm H fr.w a m)
    · rw [fr.same a u q m] at h; cases h
theorem Fr.nslot (fr : Fr K Γ δ σ H O) (h : H a = none) (i : Nat) (ds : List D) (e1 : δ[i]? = some (some (.own ds))) : σ[i]? ≠ some (some (.ref a)) := fun e2 => by
  obtain ⟨v, e3, b, vs, e4, e5, _⟩ := fr.slot i _ e1
  rw [e2] at e3
  cases e3
  cases e4
  rw [h] at e5; cases e5
/-- a new list is one's own -/
theorem Fr.grow (fr : Fr K Γ δ σ H O) (l : Later Γ H H') (h : H a = none) {o : HO} (h' : H' a = some o) : Fr K Γ δ σ H' (fun b => O b ∨ b = a) ∧ Ext H H' O (fun b => O b ∨ b = a) := by
  have x : Ext H H' O (fun b => O b ∨ b = a) := by
    have y := fr.ext l
    exact ⟨y.keep, fun b z => z.elim .inl fun e => .inr (by rw [e]; exact h), y.tup, y.frz⟩
  have f := fr.later l
  refine ⟨⟨f.gh, f.len, f.same, fun b z => .inl (f.sub b z), fun b z e => ?_, f.w, fun i s hs => ?_, f.dist⟩, x⟩
  · rcases z with z | rfl
    · exact f.otr b z e
    · rw [h'] at e; cases e
  · obtain ⟨v, e, r⟩ := fr.slot i s hs
    refine ⟨v, e, ?_⟩
    cases s with
    | val d => exact Rep.ext x d v r
    | own ds =>
      obtain ⟨b, vs, e1, e2, e3, e4, e5⟩ := r
      exact ⟨b, vs, e1, l.same b _ e2 (fr.noM e4), .inl e3, e4, Reps.ext x ds vs e5⟩
    | st => exact r
/-- what an expression gives, to be one's own -/
structure OwnOk (K : KW) (Γ : Gh) (δ : Dl) (σ : L2.St) (H : Hp) (O : Addr → Prop) (s : Slot) (v : V) (H' : Hp) (O' : Addr → Prop) : Prop where
  fr : Fr K Γ δ σ H' O'
  ext : Ext H H' O O'
  lat : Later Γ H H'
  sub : ∀ b, O b → O' b
  rep : SRep K Γ H' O' s v
  new : ∀ ds b, s = .own ds → v = .ref b → H b = none
def tO (K : KW) (xr : XRep) (C : Cfg) (W : WX) (c : CE) : TE := fun σ H Q => ∃ Γ δ O k x, Fr K Γ δ σ H O ∧ evO C c δ k x ∧
  (∀ s v H' O', k s → OwnOk K Γ δ σ H O s v H' O' → Q v H') ∧ XOk xr W Γ O σ H x
theorem OwnOk.after {s : Slot} {v : V} {O2 : Addr → Prop} {H2 : Hp} (fr : Fr K Γ δ σ H O) (l : Later Γ H H1) (o : OwnOk K Γ δ σ H1 O s v H2 O2) : OwnOk K Γ δ σ H O s v H2 O2 :=
  ⟨o.fr, (fr.ext l).trans o.ext, l.trans o.lat, o.sub, o.rep, fun ds b e1 e2 => by
    have h1 := o.new ds b e1 e2
    cases q : H b with
    | none => rfl
    | some u =>
      by_cases m : Γ.M b
      · exact absurd h1 (fr.gh.wm H1 l.w b m)
      · rw [l.same b u q m] at h1; cases h1⟩
end
section
variable {F : FT} {N : List Str} {C : Cfg} {xr : XRep} {n : Nat}
theorem sO_val {X : Cx} {sc : Scope} {W : WX} (h : Here X F N sc C xr n W) {c : CE} {e : Expr} (he : ∀ δ k x, evO C c δ k x = ev C false c δ (fun d => k (.val d)) x) (hc : chkE F N c sc e = true) : PE X e (tO (kwOf X) xr C W c) := by
  refine PE.imp (sE h false c e hc) fun σ H Q ⟨Γ, δ, O, k, x, fr, hev, q, hx⟩ => ?_
  rw [he] at hev
  exact ⟨Γ, δ, O, _, x, fr, hev, fun d v H' hk l rp => q _ _ _ O hk ⟨fr.later l, fr.ext l, l, fun _ z => z, rp, fun _ _ z => by cases z⟩, hx⟩
/-- the end of a comprehension that is one's own -/
theorem comp_own {K : KW} {σ : L2.St} {H H' : Hp} {Γ : Gh} {δ : Dl} {O : Addr → Prop} {acc : List D} {p : Addr} {vs : List V} (fr : Fr K Γ δ σ H O)
    (l : Later Γ H H') (hp : H p = none) (e : H' p = some (.lst vs)) (r : Reps K H' (fun b => O b ∨ b = p) vs acc) : OwnOk K Γ δ σ H O (.own acc) (.ref p) H' (fun b => O b ∨ b = p) := by
  obtain ⟨f2, x2⟩ := fr.grow l hp e
  exact ⟨f2, x2, l, fun _ z => .inl z, ⟨p, vs, rfl, e, .inr rfl, fr.h0 hp, r⟩, fun _ b _ e2 => by cases e2; exact hp⟩
theorem comp_parts {X : Cx} {sc scope : Scope} {W : WX} {own : List Nat} {e it ifs : CE} {t : Tg} {elt tg iter : Expr} {ifs' : List Expr} {p : Pos} {a : Int} (h : Here X F N sc C xr n W)
    (hc : chkE F N (.comp own e t it ifs) sc (.ListComp elt [⟨tg, iter, ifs', a⟩] scope p) = true) :
    a = 0 ∧ PI X tg iter (tI (kwOf X) xr C W true it) ∧ BlkOk X.N X.env.scope scope (own.map fun i => (N.getD i "", i)) ∧
    (∀ (s : Shared) (H : Hp) (A : Addr) (cl : List (Str × Addr)) (fp : List Addr), PG (X.blk s H scope (compEnvC scope cl A X.env) fp) tg (gT (kwOf X) t)) ∧
    (∀ (s : Shared) (H : Hp) (A : Addr) (cl : List (Str × Addr)) (fp : List Addr), PTs (X.blk s H scope (compEnvC scope cl A X.env) fp) ifs' (tT (kwOf X) xr C (fun _ _ _ _ => False) ifs)) ∧
    (∀ (s : Shared) (H : Hp) (A : Addr) (cl : List (Str × Addr)) (fp : List Addr), PE (X.blk s H scope (compEnvC scope cl A X.env) fp) elt (tE (kwOf X) xr C (fun _ _ _ _ => False) false e)) ∧
    (∀ y, foldedSetIterable iter X.env y = pure y) ∧ (∀ i ∈ tgs t, i ∈ own) ∧ (plainIt it = false → ∃ u, t = .tup u) ∧ (own.map fun i => (N.getD i "", i)).map (·.2) = own := by
  simp only [chkE, Bool.and_eq_true, decide_eq_true_eq] at hc
  obtain ⟨⟨⟨⟨⟨⟨⟨rfl, h1⟩, h2⟩, h3⟩, h4⟩, h5⟩, h6⟩, h7⟩ := hc
  refine ⟨rfl, sI h true it tg iter h3, by rw [h.hN, h.site.sc]; exact blkOk_by h1, fun s H A cl fp => sTg (X := X.blk s H scope (compEnvC scope cl A X.env) fp) h.hN h.nd (h.blk s H A cl fp).site.sc rfl h.site.calm t tg h4, fun s H A cl fp => ?_, fun s H A cl fp => sE (h.blk s H A cl fp) false e elt h7, fun y => ?_, by simpa using h5, plain_tup h3 h4, by simp [List.map_map, Function.comp_def]⟩
  · match ifs', h6 with
    | [], h6 =>
      cases ifs <;> first | (simp at h6; done) | skip
      refine ⟨fun pins s σ H Q I ⟨Γ, δ, O, k, x, fr, hev, q, hx⟩ => pts_nil.run pins s σ H Q I ?_⟩
      exact q true H (by simpa [evT] using hev) (.refl fr.w)
    | [c], h6 => exact pts_one (sT (h.blk s H A cl fp) ifs c h6)
    | _ :: _ :: _, h6 => simp at h6
  · cases iter <;> first | rfl | (simp [notSet] at h2)
theorem dset_parts {X : Cx} {sc : Scope} {W : WX} {i j : Nat} {a : CE} {e : Expr} {y : Str} {py spos : Pos} (h : Here X F N sc C xr n W) (hc : chkE F N (.dset j a) sc e = true) (hy : X.N[i]? = some y) (hyl : X.env.scope.names.lookup y = some .local) :
    ∃ x p1 ck p2 p3 iter scope pos, e = .DictComp (.Name x p1) (.Constant (.bool true) ck p2) [⟨.Name x p3, iter, [], 0⟩] scope pos ∧ (swapsWith (.DictComp (.Name x p1) (.Constant (.bool true) ck p2) [⟨.Name x p3, iter, [], 0⟩] scope pos) (some (.Name y py)) spos.line X.env = pure true →
      PS X (.Assign [.Name y py] (.DictComp (.Name x p1) (.Constant (.bool true) ck p2) [⟨.Name x p3, iter, [], 0⟩] scope pos) spos) (tAsg (tDset (kwOf X) j (tE (kwOf X) xr C W true a)) (gName i))) := by
  obtain ⟨x, p1, ck, p2, p3, iter, scope, pos, rfl, h1, h2, h3, h4, h5, h6, h7⟩ := inv_dset hc
  refine ⟨x, p1, ck, p2, p3, iter, scope, pos, rfl, fun hsw => ?_⟩
  have ok : BlkOk X.N X.env.scope scope [(x, j)] := by
    rw [h.hN, h.site.sc]
    exact blkOk_by h2
  have hs : ∀ y, foldedSetIterable iter X.env y = pure y := fun y => by
    cases iter <;> first | rfl | (simp [notSet] at h3)
  have hN : X.N[j]? = some x := by rw [h.hN]; exact h1
  have hu : X.A.units + 1 < cLine := by have := h.site.units; omega
  refine ps_dset hu h.site.calm h.nd (sE h true a iter h4) mono_tE ok hN (fun s H A cl fp => ?_) (fun s H A cl fp => ?_) hs hy hyl hsw
  · have hsc := (h.blk (scope := scope) s H A cl fp).site.sc
    refine pg_name (X := X.blk s H scope (compEnvC scope cl A X.env) fp) h.nd hN ?_ ?_
    · rw [hsc]
      rcases h5 with h5 | h5
      · exact .inl h5
      · exact .inr h5.1
    · rcases h5 with h5 | h5
      · right; rw [hsc]; exact h5
      · exact .inl h5.2
  · have hsc := (h.blk (scope := scope) s H A cl fp).site.sc
    have hv : Vis (X.blk s H scope (compEnvC scope cl A X.env) fp).env.scope x := by
      rw [hsc]
      unfold vis at h6
      split at h6
      · exact .inl (by assumption)
      · exact .inr (.inl (by assumption))
      · exact .inr (.inr (by assumption))
      · cases h6
    exact pe_var (X := X.blk s H scope (compEnvC scope cl A X.env) fp) (i := j) (pos := p1) hN hv (plain_dbg h7).1 (plain_dbg h7).2
theorem comp2_parts {X : Cx} {sc scope : Scope} {W : WX} {own own2 : List Nat} {e it it2 ifs : CE} {t t2 : Tg} {elt tg iter tg2 iter2 : Expr} {ifs1 ifs2 : List Expr} {p : Pos} {a a2 : Int} (h : Here X F N sc C xr n W)
    (hc : chkE F N (.comp2 own own2 e t it t2 it2 ifs) sc (.ListComp elt [⟨tg, iter, ifs1, a⟩, ⟨tg2, iter2, ifs2, a2⟩] scope p) = true) :
    a = 0 ∧ a2 = 0 ∧ ifs1 = [] ∧ PI X tg iter (tI (kwOf X) xr C W true it) ∧ BlkOk X.N X.env.scope scope (own.map fun i => (N.getD i "", i)) ∧ (∀ i ∈ own2, i ∈ own) ∧
    (∀ (s : Shared) (H : Hp) (A : Addr) (cl : List (Str × Addr)) (fp : List Addr), PG (X.blk s H scope (compEnvC scope cl A X.env) fp) tg (gT (kwOf X) t)) ∧
    (∀ (s : Shared) (H : Hp) (A : Addr) (cl : List (Str × Addr)) (fp : List Addr), PI (X.blk s H scope (compEnvC scope cl A X.env) fp) tg2 iter2 (tI (kwOf X) xr C (fun _ _ _ _ => False) false it2)) ∧
    (∀ (s : Shared) (H : Hp) (A : Addr) (cl : List (Str × Addr)) (fp : List Addr), PG (X.blk s H scope (compEnvC scope cl A X.env) fp) tg2 (gT (kwOf X) t2)) ∧
    (∀ (s : Shared) (H : Hp) (A : Addr) (cl : List (Str × Addr)) (fp : List Addr), PTs (X.blk s H scope (compEnvC scope cl A X.env) fp) ifs2 (tT (kwOf X) xr C (fun _ _ _ _ => False) ifs)) ∧
    (∀ (s : Shared) (H : Hp) (A : Addr) (cl : List (Str × Addr)) (fp : List Addr), PE (X.blk s H scope (compEnvC scope cl A X.env) fp) elt (tE (kwOf X) xr C (fun _ _ _ _ => False) false e)) ∧
    (∀ y, foldedSetIterable iter X.env y = pure y) ∧ (∀ env y, foldedSetIterable iter2 env y = pure y) ∧ (∀ i ∈ tgs t, i ∈ own) ∧ (plainIt it = false → ∃ u, t = .tup u) ∧ (∀ i ∈ tgs t2, i ∈ own2) ∧ (plainIt it2 = false → ∃ u, t2 = .tup u) ∧ (own.map fun i => (N.getD i "", i)).map (·.2) = own := by
  simp only [chkE, Bool.and_eq_true, decide_eq_true_eq] at hc
  obtain ⟨⟨⟨⟨⟨⟨⟨⟨⟨⟨⟨⟨⟨⟨rfl, rfl⟩, h0⟩, h1⟩, h2⟩, h2'⟩, h3⟩, h3'⟩, h4⟩, h4'⟩, h5⟩, h5'⟩, h8⟩, h6⟩, h7⟩ := hc
  refine ⟨rfl, rfl, by cases ifs1 <;> first | rfl | (simp at h0), sI h true it tg iter h3, by rw [h.hN, h.site.sc]; exact blkOk_by h1, by simpa using h8, fun s H A cl fp => sTg (X := X.blk s H scope (compEnvC scope cl A X.env) fp) h.hN h.nd (h.blk s H A cl fp).site.sc rfl h.site.calm t tg h4,
    fun s H A cl fp => sI (h.blk s H A cl fp) false it2 tg2 iter2 h3', fun s H A cl fp => sTg (X := X.blk s H scope (compEnvC scope cl A X.env) fp) h.hN h.nd (h.blk s H A cl fp).site.sc rfl h.site.calm t2 tg2 h4', fun s H A cl fp => ?_, fun s H A cl fp => sE (h.blk s H A cl fp) false e elt h7, fun y => ?_, fun env y => ?_, by simpa using h5, plain_tup h3 h4, by simpa using h5', plain_tup h3' h4', by simp [List.map_map, Function.comp_def]⟩
  · match ifs2, h6 with
    | [], h6 =>
      cases ifs <;> first | (simp at h6; done) | skip
      refine ⟨fun pins s σ H Q I ⟨Γ, δ, O, k, x, fr, hev, q, hx⟩ => pts_nil.run pins s σ H Q I ?_⟩
      exact q true H (by simpa [evT] using hev) (.refl fr.w)
    | [c], h6 => exact pts_one (sT (h.blk s H A cl fp) ifs c h6)
    | _ :: _ :: _, h6 => simp at h6
  · cases iter <;> first | rfl | (simp [notSet] at h2)
  · cases iter2 <;> first | rfl | (simp [notSet] at h2')
theorem inv_LC {c : CE} {sc : Scope} {elt : Expr} {gens : List Comprehension} {scope : Scope} {p : Pos} (h : chkE F N c sc (.ListComp elt gens scope p) = true) :
    (∃ own e t it ifs g, c = .comp own e t it ifs ∧ gens = [g]) ∨ (∃ own own2 e t it t2 it2 ifs g g2, c = .comp2 own own2 e t it t2 it2 ifs ∧ gens = [g, g2]) := by
  cases c <;> first
    | (simp [chkE] at h; done)
    | (simp only [chkE] at h; rename_i o _; cases o <;> simp [chkOp1, chkOp2] at h; done)
    | (simp only [chkE] at h; rename_i o _ _; cases o <;> simp [chkOp1, chkOp2] at h; done)
    | (obtain ⟨g, rfl⟩ := inv_comp h; exact .inl ⟨_, _, _, _, _, g, rfl, rfl⟩)
    | (obtain ⟨g, g2, rfl⟩ := inv_comp2 h; exact .inr ⟨_, _, _, _, _, _, _, _, g, g2, rfl, rfl⟩)
theorem inv_DC {c : CE} {sc : Scope} {kx vx : Expr} {gens : List Comprehension} {scope : Scope} {p : Pos} (h : chkE F N c sc (.DictComp kx vx gens scope p) = true) : ∃ i a, c = .dset i a := by
  cases c <;> first
    | exact ⟨_, _, rfl⟩
    | (simp [chkE] at h; done)
    | (simp only [chkE] at h; rename_i o _; cases o <;> simp [chkOp1, chkOp2] at h; done)
    | (simp only [chkE] at h; rename_i o _ _; cases o <;> simp [chkOp1, chkOp2] at h; done)
theorem sO {X : Cx} {sc : Scope} {W : WX} (h : Here X F N sc C xr n W) (c : CE) (e : Expr) (hc : chkE F N c sc e = true) : PE X e (tO (kwOf X) xr C W c) := by
  cases c with
  | call f r =>
    cases e with
    | Call fe es kws p =>
      cases fe with
      | Name y py =>
        match kws, hc with
        | [], hc =>
          simp only [chkE, Bool.and_eq_true, decide_eq_true_eq] at hc
          obtain ⟨⟨⟨⟨h1, h2⟩, h3⟩, h4⟩, h5⟩ := hc
          have fin : ∀ {σ : L2.St} {H H1 : Hp} {Q : VK} {Γ : Gh} {δ : Dl} {O : Addr → Prop} {k : Slot → Prop} {x : KX} {ss : List Slot} {vs : List V}, Fr (kwOf X) Γ δ σ H O → Later Γ H H1 → C.call f ss k x → AReps (kwOf X) Γ H1 O ss vs →
              (∀ s v H' O', k s → OwnOk (kwOf X) Γ δ σ H O s v H' O' → Q v H') →
              XOk xr W Γ O σ H x → spC (kwOf X) xr C.call f es.length vs H1 Q fun cls dd H' => W cls dd σ H' := by
            intro σ H H1 Q Γ δ O k x ss vs fr l hk ar q hx
            have f1 := fr.later l
            refine ⟨by rw [← ar.length]; exact h.stat.lens f y _ h1 ss _ _ hk, Γ, O, ss, _, x, fr.gh, l.w, f1.otr, fr.m, ar, hk, fun s v H' hk l' rr => ?_, fun e cls dd H' hx' l' xx => hx e cls dd H' hx' (l.trans l') xx⟩
            cases s with
            | val d' => exact q _ _ _ O hk (OwnOk.after fr l ⟨f1.later l', f1.ext l', l', fun _ z => z, rr, fun _ _ z => by cases z⟩)
            | own ds =>
              obtain ⟨a, us, rfl, e2, e3, e4⟩ := rr
              exact q _ _ _ _ hk (OwnOk.after fr l (comp_own f1 l' e3 e2 e4))
            | st => exact q _ _ _ O hk (OwnOk.after fr l ⟨f1.later l', f1.ext l', l', fun _ z => z, rr, fun _ _ z => by cases z⟩)
          cases es with
          | nil =>
            refine PE.imp (pe_fn0 (p := py) (pos := p) h h1 h2 h3) fun σ H Q ⟨Γ, δ, O, k, x, fr, hev, q, hx⟩ => ?_
            have er : r = .nil := by cases r <;> first | rfl | (simp [chkA] at h5)
            subst er
            simp only [evO, evA] at hev
            exact fin fr (.refl fr.w) hev .nil q hx
          | cons e1 es =>
            refine PE.imp (pe_fn (p := py) (pos := p) h h1 h2 h3 h4 (sA h r _ h5)) fun σ H Q ⟨Γ, δ, O, k, x, fr, hev, q, hx⟩ => ?_
            simp only [evO] at hev
            exact ⟨Γ, δ, O, _, x, fr, hev, fun ss vs H1 hk l ar => fin fr l hk ar q hx, hx⟩
        | _ :: _, hc => simp [chkE] at hc
      | _ => simp [chkE] at hc
    | _ => simp [chkE] at hc
  | lst r =>
    cases e with
    | List es p =>
      simp only [chkE] at hc
      refine PE.imp (pe_lst (pos := p) (sA h r es hc)) fun σ H Q ⟨Γ, δ, O, k, x, fr, hev, q, hx⟩ => ?_
      simp only [evO, ev] at hev
      refine ⟨Γ, δ, O, _, x, fr, hev, fun ss vs H1 ⟨ds, e1, e2, hk⟩ l ar => ?_, hx⟩
      have rs := ar.vals e1
      refine ⟨by rw [rs.length]; exact e2, fun p hp => ?_⟩
      have f1 := fr.later l
      have l2 : Later Γ H1 (upd H1 p (.lst vs)) := Later.of_same f1.gh f1.w (same_upd hp)
      exact q _ _ _ _ hk (OwnOk.after fr l (comp_own f1 l2 hp upd_same (Reps.ext (f1.grow l2 hp upd_same).2 ds vs rs)))
    | _ => simp [chkE] at hc
  | comp own e' t it ifs =>
    cases e with
    | ListComp elt gens scope p =>
      obtain ⟨⟨tg, iter, ifs', a⟩, rfl⟩ := inv_comp hc
      obtain ⟨rfl, hI, ok, hg, ht, he, hs, h5, hpl, hown⟩ := comp_parts h hc
      have P := pe_lc (pos := p) (elt := elt) (g := gT (kwOf X) t) h.site.calm h.nd hI ok hg ht he hs
      rw [hown] at P
      refine PE.imp P fun σ H Q ⟨Γ, δ, O, k, x, fr, hev, q, hx⟩ => ?_
      simp only [evO] at hev
      exact comp_core h5 hpl fr hev hx fun acc p vs H' hk l hp e2 rs ot no => q _ _ _ _ hk (comp_own fr l hp e2 rs)
    | _ => simp [chkE] at hc
  | _ => exact sO_val h (fun _ _ _ => by simp only [evO]) hc
/-- several things, each one's own -/
inductive Owns (K : KW) (Γ : Gh) (H : Hp) (O : Addr → Prop) : List Slot → List V → List Addr → Prop
  | nil : Owns K Γ H O [] [] []
  | val {d : D} {v : V} {ss : List Slot} {vs : List V} {as : List Addr} : Rep K H O v d → Owns K Γ H O ss vs as → Owns K Γ H O (.val d :: ss) (v :: vs) as
  | st {ss : List Slot} {vs : List V} {as : List Addr} : Γ.sv ≠ .non → Owns K Γ H O ss vs as → Owns K Γ H O (.st :: ss) (Γ.sv :: vs) as
  | own {ds : List D} {b : Addr} {ss : List Slot} {vs : List V} {as : List Addr} : SRep K Γ H O (.own ds) (.ref b) → b ∉ as → Owns K Γ H O ss vs as → Owns K Γ H O (.own ds :: ss) (.ref b :: vs) (b :: as)
section
variable {K : KW} {Γ : Gh} {δ δ' : Dl} {σ : L2.St} {H : Hp} {O : Addr → Prop}
def setV (σ : L2.St) : List Nat → List V → L2.St
  | i :: is, v :: vs => setV (σ.set i (some v)) is vs
  | _, _ => σ
theorem Fr.setAll {ss : List Slot} {vs : List V} {as : List Addr} (w : Owns K Γ H O ss vs as) : ∀ {is : List Nat} {δ : Dl} {σ : L2.St}, Fr K Γ δ σ H O → Tk.setAll δ is ss = some δ' → (∀ b ∈ as, ∀ (j : Nat) es, δ[j]? = some (some (.own es)) → σ[j]? ≠ some (some (.ref b))) → Fr K Γ δ' (setV σ is vs) H O := by
  induction w with
  | nil =>
    intro is δ σ fr e _
    cases is with
    | nil => simp [Tk.setAll] at e; subst e; exact fr
    | cons _ _ => simp [Tk.setAll] at e
  | val r w ih =>
    intro is δ σ fr e hn
    cases is with
    | nil => simp [Tk.setAll] at e
    | cons i is =>
      simp only [Tk.setAll] at e
      split at e
      · rename_i hi
        refine ih (fr.set hi r) e fun b hb j es hj => ?_
        by_cases q : i = j
        · subst q; rw [List.getElem?_set_self hi] at hj; cases hj
        · rw [List.getElem?_set_ne q] at hj ⊢; exact hn b hb j es hj
      · cases e
  | st hs w ih =>
    intro is δ σ fr e hn
    cases is with
    | nil => simp [Tk.setAll] at e
    | cons i is =>
      simp only [Tk.setAll] at e
      split at e
      · rename_i hi
        refine ih (fr.setO (s := .st) hi ⟨rfl, hs⟩ (fun _ _ z => by cases z)) e fun b hb j es hj => ?_
        by_cases q : i = j
        · subst q; rw [List.getElem?_set_self hi] at hj; cases hj
        · rw [List.getElem?_set_ne q] at hj ⊢; exact hn b hb j es hj
      · cases e
  | own r hb w ih =>
    rename_i ds b ss vs as
    intro is δ σ fr e hn
    cases is with
    | nil => simp [Tk.setAll] at e
    | cons i is =>
      simp only [Tk.setAll] at e
      split at e
      · rename_i hi
        refine ih (fr.setO hi r (fun _ a _ ea j es hj => by cases ea; exact hn b List.mem_cons_self j es hj)) e fun c hc j es hj => ?_
        by_cases q : i = j
        · subst q
          rw [List.getElem?_set_self (by rw [← fr.len]; exact hi)]
          intro z
          cases z
          exact hb hc
        · rw [List.getElem?_set_ne q] at hj ⊢; exact hn c (List.mem_cons_of_mem _ hc) j es hj
      · cases e
/-- a name's own list grows -/
theorem Fr.push {i : Nat} {ds : List D} {a : Addr} {vs : List V} {y : V} {d : D} (fr : Fr K Γ δ σ H O) (hd : δ[i]? = some (some (.own ds))) (hs : σ[i]? = some (some (.ref a))) (ha : H a = some (.lst vs)) (ho : O a) (h0 : Γ.H0 a = none) (rs : Reps K H O vs ds) (ry : Rep K H O y d) :
    Fr K Γ (δ.set i (some (.own (ds ++ [d])))) σ (upd H a (.lst (vs ++ [y]))) O ∧ Ext H (upd H a (.lst (vs ++ [y]))) O O := by
  have hi : i < δ.length := (List.getElem?_eq_some_iff.mp hd).1
  have nm : ¬ Γ.M a := fr.noM h0
  have keep : ∀ b u, H b = some u → b ≠ a → upd H a (.lst (vs ++ [y])) b = some u := fun b u h n => by rw [upd_ne n]; exact h
  have hx : Ext H (upd H a (.lst (vs ++ [y]))) O O := by
    refine ⟨fun b u h n => keep b u h (fun z => n (by rw [z]; exact ho)), fun b h => .inl h, fun b zs h => keep b _ h fun z => ?_, fun b o u h => keep b _ h fun z => ?_⟩
    · rw [z, ha] at h; cases h
    · rw [z, ha] at h; cases h
  refine ⟨⟨fr.gh, by simp [fr.len], fun b u h n => keep b u (fr.same b u h n) (fun z => by rw [z, h0] at h; cases h), fr.sub, fun b h e => ?_, ?_, fun j s h => ?_, fun j k b ds' es' h1 h2 h3 h4 => ?_⟩, hx⟩
  · by_cases z : b = a
    · subst z; rw [upd_same] at e; cases e
    · rw [upd_ne z] at e; exact fr.otr b h e
  · exact fr.gh.ws H _ (fun b hb => upd_ne fun z => nm (by rw [← z]; exact hb)) fr.w
  · by_cases q : i = j
    · subst q
      rw [List.getElem?_set_self hi] at h
      cases h
      exact ⟨_, hs, a, vs ++ [y], rfl, upd_same, ho, h0, (Reps.ext hx ds vs rs).append (.cons (Rep.ext hx d y ry) .nil)⟩
    · rw [List.getElem?_set_ne q] at h
      obtain ⟨v, e, r⟩ := fr.slot j s h
      refine ⟨v, e, ?_⟩
      cases s with
      | val d => exact Rep.ext hx d v r
      | own es =>
        obtain ⟨b, us, e1, e2, e3, e4, e5⟩ := r
        subst e1
        have na : b ≠ a := fun z => by
          subst z
          exact q (fr.dist i j b ds es hd h hs e)
        exact ⟨b, us, rfl, keep b _ e2 na, e3, e4, Reps.ext hx es us e5⟩
      | st => exact r
  · have f : ∀ (m : Nat) es, (δ.set i (some (.own (ds ++ [d]))))[m]? = some (some (.own es)) → ∃ es', δ[m]? = some (some (.own es')) := fun m es hm => by
      by_cases q : i = m
      · subst q; exact ⟨ds, hd⟩
      · rw [List.getElem?_set_ne q] at hm; exact ⟨es, hm⟩
    obtain ⟨_, g1⟩ := f j _ h1
    obtain ⟨_, g2⟩ := f k _ h2
    exact fr.dist j k b _ _ g1 g2 h3 h4
end
def tOs (K : KW) (xr : XRep) (C : Cfg) (W : WX) (c : CE) : TA := fun σ H Q => ∃ Γ δ O k x, Fr K Γ δ σ H O ∧ evOs C c δ k x ∧
  (∀ ss vs as H' O', k ss → Fr K Γ δ σ H' O' → Ext H H' O O' → Later Γ H H' → (∀ b, O b → O' b) → Owns K Γ H' O' ss vs as → (∀ b ∈ as, H b = none) → Q vs H') ∧ XOk xr W Γ O σ H x
theorem sOs {X : Cx} {sc : Scope} {W : WX} (h : Here X F N sc C xr n W) : ∀ (c : CE) (es : List Expr), chkA F N c sc es = true → PA X es (tOs (kwOf X) xr C W c)
  | .nil, [], hc => PA.imp pa_nil fun σ H Q ⟨Γ, δ, O, k, x, fr, hev, q, hx⟩ => q [] [] [] H O (by simpa [evOs] using hev) fr .refl (.refl fr.w) (fun _ z => z) .nil (by simp)
  | .cons a r, e :: es, hc => by
    simp only [chkA, Bool.and_eq_true] at hc
    obtain ⟨⟨h1, h2⟩, h3⟩ := hc
    refine PA.imp (pa_cons (sO h a e h2) (sOs h r es h3) (star_cons h1)) fun σ H Q ⟨Γ, δ, O, k, x, fr, hev, q, hx⟩ => ?_
    simp only [evOs] at hev
    refine ⟨Γ, δ, O, _, x, fr, hev, fun s v H1 O1 hk o => ?_, hx⟩
    refine ⟨Γ, δ, O1, _, x, o.fr, hk, fun ss vs as H2 O2 hk f2 x2 l2 sb w n2 => ?_, fun e cls dd H' a b c => hx e cls dd H' a (o.lat.trans b) (h.stat.xm _ _ _ _ _ _ o.sub c)⟩
    have nn : ∀ b ∈ as, H b = none := fun b hb => by
      have h1 := n2 b hb
      cases q : H b with
      | none => rfl
      | some u =>
        by_cases m : Γ.M b
        · exact absurd h1 (fr.gh.wm H1 o.lat.w b m)
        · rw [o.lat.same b u q m] at h1; cases h1
    have sb2 : ∀ b, O b → O2 b := fun b z => sb b (o.sub b z)
    cases s with
    | val d => exact q _ _ as H2 O2 hk f2 (o.ext.trans x2) (o.lat.trans l2) sb2 (.val (Rep.ext x2 d v o.rep) w) nn
    | st =>
      obtain ⟨e, hs⟩ := o.rep
      subst e
      exact q _ _ as H2 O2 hk f2 (o.ext.trans x2) (o.lat.trans l2) sb2 (.st hs w) nn
    | own ds =>
      obtain ⟨b, us, rfl, g1, g2, g3, g4⟩ := id o.rep
      have hb := o.new ds b rfl rfl
      refine q _ _ (b :: as) H2 O2 hk f2 (o.ext.trans x2) (o.lat.trans l2) sb2 (.own ⟨b, us, rfl, l2.same b _ g1 (fr.noM g3), sb b g2, g3, Reps.ext x2 ds us g4⟩ (fun z => by rw [n2 b z] at g1; cases g1) w) fun c hc => ?_
      rcases List.mem_cons.mp hc with rfl | hc
      · exact hb
      · exact nn c hc
  | .nil, _ :: _, hc => by simp [chkA] at hc
  | .cons _ _, [], hc => by simp [chkA] at hc
  | .const _, _, hc => by simp [chkA] at hc
  | .var _, _, hc => by simp [chkA] at hc
  | .glob _, _, hc => by simp [chkA] at hc
  | .tup _, _, hc => by simp [chkA] at hc
  | .lst _, _, hc => by simp [chkA] at hc
  | .op1 _ _, _, hc => by simp [chkA] at hc
  | .op2 _ _ _, _, hc => by simp [chkA] at hc
  | .slc _ _ _, _, hc => by simp [chkA] at hc
  | .nopart, _, hc => by simp [chkA] at hc
  | .chain _ _ _ _ _, _, hc => by simp [chkA] at hc
  | .and_ _ _, _, hc => by simp [chkA] at hc
  | .or_ _ _, _, hc => by simp [chkA] at hc
  | .not_ _, _, hc => by simp [chkA] at hc
  | .ifx _ _ _, _, hc => by simp [chkA] at hc
  | .call _ _, _, hc => by simp [chkA] at hc
  | .comp _ _ _ _ _, _, hc => by simp [chkA] at hc
  | .iter _, _, hc => by simp [chkA] at hc
  | .range1 _, _, hc => by simp [chkA] at hc
  | .range2 _ _, _, hc => by simp [chkA] at hc
  | .zip2 _ _, _, hc => by simp [chkA] at hc
  | .zip2s _ _, _, hc => by simp [chkA] at hc
  | .dset _ _, _, hc => by simp [chkA] at hc
  | .comp2 _ _ _ _ _ _ _ _, _, hc => by simp [chkA] at hc
  | .disp _ _, _, hc => by simp [chkA] at hc
  | .getG _ _, _, hc => by simp [chkA] at hc
  | .inG _ _ _, _, hc => by simp [chkA] at hc
  | .enum _, _, hc => by simp [chkA] at hc
/-! ### statements -/
theorem Owns.same {K : KW} {Γ : Gh} {H H' : Hp} {O : Addr → Prop} {ss : List Slot} {vs : List V} {as : List Addr} (s : Same H H') (w : Owns K Γ H O ss vs as) : Owns K Γ H' O ss vs as := by
  induction w with
  | nil => exact .nil
  | val r _ ih => exact .val (Rep.ext (Ext.same s) _ _ r) ih
  | st h _ ih => exact .st h ih
  | own r n _ ih =>
    obtain ⟨a, vs, e1, e2, e3, e4, e5⟩ := r
    exact .own ⟨a, vs, e1, s _ _ e2, e3, e4, Reps.ext (Ext.same s) _ _ e5⟩ n ih
def gNames : List Nat → TGs
  | [] => gNil
  | i :: is => gCons (gName i) (gNames is)
theorem gNames_set : ∀ {is : List Nat} {vs : List V} {σ : L2.St} {H : Hp} {Q : L2.St → Hp → Prop}, vs.length = is.length → Q (setV σ is vs) H → gNames is vs σ H Q
  | [], [], _, _, _, _, q => ⟨rfl, q⟩
  | [], _ :: _, _, _, _, h, _ => by simp at h
  | _ :: _, [], _, _, _, h, _ => by simp at h
  | i :: is, v :: vs, _, _, _, h, q => ⟨v, vs, rfl, gNames_set (by simpa using h) q⟩
theorem parNs_len {N : List Str} {sc : Scope} {fn : Str → Bool} : ∀ {is : List Nat} {ts : List Expr}, parNs N sc fn is ts = true → ts.length = is.length
  | [], [], _ => rfl
  | [], _ :: _, h => by simp [parNs] at h
  | _ :: _, [], h => by simp [parNs] at h
  | i :: is, t :: ts, h => by
    cases t with
    | Name x p =>
      simp only [parNs, Bool.and_eq_true] at h
      simp [parNs_len h.2]
    | _ => simp [parNs] at h
theorem parNs_stars {N : List Str} {sc : Scope} {fn : Str → Bool} : ∀ {is : List Nat} {ts : List Expr}, parNs N sc fn is ts = true → notStars ts = true
  | [], [], _ => rfl
  | [], _ :: _, h => by simp [parNs] at h
  | _ :: _, [], h => by simp [parNs] at h
  | i :: is, t :: ts, h => by
    cases t with
    | Name x p =>
      simp only [parNs, Bool.and_eq_true] at h
      have := parNs_stars h.2
      simp only [notStars, List.all_cons, Bool.and_eq_true] at this ⊢
      exact ⟨rfl, this⟩
    | _ => simp [parNs] at h
structure HereS (X : Cx) (F : FT) (N : List Str) (sc : Scope) (fn : Str → Bool) (C : Cfg) (xr : XRep) (n : Nat) (W : WX) : Prop where
  toHere : Here X F N sc C xr n W
  fn : X.fn = fn
  po : PassesOwn (model X.prog X.w) X.A X.env X.xe
theorem tgt_one {tg : Expr} {env : Env} (h : notStar tg = true) : (assignEach [tg] env).map (·.2) = [assign tg env] := by
  rw [assign_cons h]; rfl
theorem name_ok {X : Cx} {sc : Scope} {fn : Str → Bool} {W : WX} {i : Nat} {y : Str} {p : Pos} (h : HereS X F N sc fn C xr n W) (hc : chkT N sc fn (.name i) (.Name y p) = true) :
    X.N[i]? = some y ∧ Loc X.env.scope y ∧ (X.fn y = true ∨ X.env.scope.names.lookup y = some .local) := by
  simp only [chkT, Bool.and_eq_true, Bool.or_eq_true, decide_eq_true_eq] at hc
  obtain ⟨h1, h2⟩ := hc
  rw [h.toHere.site.sc, h.fn, h.toHere.hN]
  refine ⟨h1, ?_, ?_⟩
  · rcases h2 with h2 | h2
    · exact .inl h2
    · exact .inr h2.1
  · rcases h2 with h2 | h2
    · exact .inr h2
    · exact .inl h2.2
theorem pgs_names {X : Cx} {sc : Scope} {fn : Str → Bool} {W : WX} (h : HereS X F N sc fn C xr n W) : ∀ {is : List Nat} {ts : List Expr}, parNs N sc fn is ts = true → PGs X ts (gNames is)
  | [], [], _ => pgs_nil
  | [], _ :: _, h => by simp [parNs] at h
  | _ :: _, [], h => by simp [parNs] at h
  | i :: is, t :: ts, hp => by
    cases t with
    | Name x p =>
      simp only [parNs, Bool.and_eq_true] at hp
      obtain ⟨q1, q2, q3⟩ := name_ok h hp.1
      exact pgs_cons (pg_name h.toHere.nd q1 q2 q3) (pgs_names h hp.2) rfl
    | _ => simp [parNs] at hp
mutual
theorem sS {X : Cx} {sc : Scope} {fn : Str → Bool} {W : WX} (h : HereS X F N sc fn C xr n W) : ∀ (c : CS) (st : Stmt), chkS F N sc fn c st = true → PS X st (tS (kwOf X) xr C W c)
  | .nop, st, hc => by
    cases st with
    | Pass p => exact PS.imp (ps_pass (pos := p)) fun B σ H ⟨Γ, δ, O, E, fr, hev, en⟩ => en.nx δ σ H O (by simpa [ex] using hev) fr .refl
    | _ => simp [chkS] at hc
  | .expr e, st, hc => by
    cases st with
    | Expr ee p =>
      simp only [chkS, Bool.and_eq_true] at hc
      refine PS.imp (ps_expr (pos := p) (sE h.toHere false e ee hc.2) (swapsWith_free hc.1)) fun B σ H ⟨Γ, δ, O, E, fr, hev, en⟩ => ?_
      simp only [ex] at hev
      exact ⟨Γ, δ, O, _, _, fr, hev, fun d v H' hk l rp => en.nx δ σ H' O hk (fr.later l) (fr.ext l), en.x fr⟩
    | _ => simp [chkS] at hc
  | .ret e, st, hc => by
    cases st with
    | Return v p =>
      cases v with
      | none => simp [chkS] at hc
      | some ee =>
        simp only [chkS] at hc
        refine PS.imp (ps_ret (pos := p) (sE h.toHere false e ee hc)) fun B σ H ⟨Γ, δ, O, E, fr, hev, en⟩ => ?_
        simp only [ex] at hev
        exact ⟨Γ, δ, O, _, _, fr, hev, fun d v H' hk l rp => en.rt _ v H' hk ((fr.later l).ret rp), en.x fr⟩
    | _ => simp [chkS] at hc
  | .retO e, st, hc => by
    cases st with
    | Return v p =>
      cases v with
      | none => simp [chkS] at hc
      | some ee =>
        simp only [chkS] at hc
        refine PS.imp (ps_ret (pos := p) (sO h.toHere e ee hc)) fun B σ H ⟨Γ, δ, O, E, fr, hev, en⟩ => ?_
        simp only [ex] at hev
        exact ⟨Γ, δ, O, _, _, fr, hev, fun s v H' O' hk o => en.rt _ v H' hk (o.fr.ret o.rep), en.x fr⟩
    | _ => simp [chkS] at hc
  | .retV i, st, hc => by
    cases st with
    | Return v p =>
      cases v with
      | none => simp [chkS] at hc
      | some ee =>
        simp only [chkS] at hc
        refine PS.imp (ps_ret (pos := p) (sV h.toHere i ee hc)) fun B σ H ⟨Γ, δ, O, E, fr, hev, en⟩ => ?_
        simp only [ex] at hev
        split at hev
        · rename_i s e1
          obtain ⟨v, e2, r⟩ := fr.slot i _ e1
          exact ⟨v, e2, en.rt s v H hev (fr.ret r)⟩
        · exact hev.elim
    | _ => simp [chkS] at hc
  | .retN, st, hc => by
    cases st with
    | Return v p =>
      cases v with
      | some _ => simp [chkS] at hc
      | none => exact PS.imp (ps_retN (pos := p)) fun B σ H ⟨Γ, δ, O, E, fr, hev, en⟩ => en.rt _ _ H (by simpa [ex] using hev) (fr.ret (s := .val .none) .non)
    | _ => simp [chkS] at hc
  | .asg t e, st, hc => by
    cases st with
    | Assign tgs' ee p =>
      match tgs', hc with
      | [tg], hc =>
        simp only [chkS, Bool.and_eq_true] at hc
        obtain ⟨⟨⟨⟨h1, h2⟩, h3⟩, h4⟩, h5⟩ := hc
        have hh := h.toHere
        refine PS.imp (ps_asg (pos := p) (sE hh false e ee h5) (sTg hh.hN hh.nd hh.site.sc h.fn hh.site.calm t tg h2) (compFree_ok (by rw [hh.site.sc]; exact h4)) (swapFree_ok (by rw [hh.site.sc]; exact h3)) (tgt_one h1)) fun B σ H ⟨Γ, δ, O, E, fr, hev, en⟩ => ?_
        simp only [ex] at hev
        refine ⟨Γ, δ, O, _, _, fr, hev, fun d v H' hk l rp => ?_, en.x fr⟩
        exact ⟨Γ, δ, O, d, _, fr.later l, hk, TRep.of rp, fun δ' σ' hk' f' _ => en.nx δ' σ' H' O hk' f' (fr.ext l)⟩
      | [], hc => simp [chkS] at hc
      | _ :: _ :: _, hc => simp [chkS] at hc
    | _ => simp [chkS] at hc
  | .asgO i e, st, hc => by
    cases st with
    | Assign tgs' ee p =>
      match tgs', hc with
      | [tg0], hc =>
        simp only [chkS, Bool.and_eq_true, Bool.or_eq_true] at hc
        obtain ⟨⟨h1, h2⟩, h3⟩ := hc
        have hh := h.toHere
        obtain ⟨y, py, rfl⟩ : ∃ y py, tg0 = .Name y py := by cases tg0 <;> first | exact ⟨_, _, rfl⟩ | (simp [chkT] at h1)
        obtain ⟨hN, hl, hf⟩ := name_ok h h1
        have fin : ∀ {B : Ends} {σ : L2.St} {H : Hp} {Γ : Gh} {δ : Dl} {O : Addr → Prop} {E : En}, Fr (kwOf X) Γ δ σ H O → EnOk (kwOf X) xr W Γ H O B E → ∀ s v H' O', (i < δ.length ∧ E.nx (δ.set i (some s))) → OwnOk (kwOf X) Γ δ σ H O s v H' O' → B.nx (σ.set i (some v)) H' := by
          intro B σ H Γ δ O E fr en s v H' O' hk o
          refine en.nx _ _ H' O' hk.2 (o.fr.setO hk.1 o.rep fun ds b e1 e2 j es hj => ?_) o.ext
          exact fr.nslot (o.new ds b e1 e2) j es hj
        by_cases h4 : compFree sc (.Name y py) ee = true
        · refine PS.imp (ps_asg (pos := p) (sO hh e ee h2) (pg_name (i := i) (pos := py) hh.nd hN hl hf) (compFree_ok (by rw [hh.site.sc]; exact h4)) (swapFree_ok (by cases ee <;> rfl)) (tgt_one rfl)) fun B σ H ⟨Γ, δ, O, E, fr, hev, en⟩ => ?_
          simp only [ex] at hev
          exact ⟨Γ, δ, O, _, _, fr, hev, fun s v H' O' hk o => fin fr en s v H' O' hk o, en.x fr⟩
        · rcases h3 with h3 | h3
          · exact absurd h3 h4
          · cases ee with
            | ListComp elt gens s pp =>
              simp only [lcTrue, Bool.and_eq_true, decide_eq_true_eq, Bool.not_eq_true'] at h3
              obtain ⟨⟨⟨g2, g3⟩, g4⟩, g5⟩ := h3
              rcases inv_LC h2 with ⟨own, e', t, it, ifs, ⟨tg, iter, ifs', aa⟩, rfl, rfl⟩ | ⟨own, own2, e', t, it, t2, it2, ifs, ⟨tg, iter, ifs1, a1⟩, ⟨tg2, iter2, ifs2, a2⟩, rfl, rfl⟩
              · obtain ⟨rfl, hI, ok, hg, ht, he, hs, h5, hpl, hown⟩ := comp_parts hh h2
                have P := ps_setLc (i := i) (py := py) (pos := pp) (spos := p) (elt := elt) (g := gT (kwOf X) t) hh.site.calm hh.nd hN (by rw [hh.site.sc]; exact g3) (sw_true (by rw [hh.site.sc]; exact g2) (by rw [hh.site.sc]; exact g3) g4 g5) hI ok hg ht he hs
                rw [hown] at P
                refine PS.imp P fun B σ H ⟨Γ, δ, O, E, fr, hev, en⟩ => ?_
                simp only [ex, evO] at hev
                exact comp_core h5 hpl fr hev (en.x fr) fun acc p vs H' hk l hp e2 rs ot no => fin fr en _ _ _ _ hk (comp_own fr l hp e2 rs)
              · obtain ⟨rfl, rfl, rfl, hI, ok, hv, hg, hI2, hg2, ht2, he, hs, hs2, h5, hpl, h5', hpl', hown⟩ := comp2_parts hh h2
                have P := ps_setLc2 (i := i) (py := py) (pos := pp) (spos := p) (elt := elt) (vs1 := own2) (g := gT (kwOf X) t) hh.site.calm hh.nd hN (by rw [hh.site.sc]; exact g3) (sw_true (by rw [hh.site.sc]; exact g2) (by rw [hh.site.sc]; exact g3) g4 g5) hI ok (by rw [hown]; exact hv) hg (fun s H A cl fp => pts_nil) hI2 hg2 ht2 he hs hs2
                rw [hown] at P
                refine PS.imp P fun B σ H ⟨Γ, δ, O, E, fr, hev, en⟩ => ?_
                simp only [ex, evO] at hev
                exact comp2_core h5 hpl h5' hpl' fr hev (en.x fr) fun acc p vs H' hk l hp e2 rs ot no => fin fr en _ _ _ O hk ⟨fr.later l, fr.ext l, l, fun _ z => z, .lst (.inl ⟨.inl e2, no⟩) (Reps.ext (Ext.sub fun b z => .inl z) _ _ rs), fun _ _ z => by cases z⟩
            | DictComp kx vx gens s pp =>
              simp only [lcTrue, Bool.and_eq_true, decide_eq_true_eq, Bool.not_eq_true'] at h3
              obtain ⟨⟨⟨g2, g3⟩, g4⟩, g5⟩ := h3
              obtain ⟨j, a, rfl⟩ := inv_DC h2
              obtain ⟨z, p1, ck, p2, p3, iter, scope, pos, ez, P⟩ := dset_parts (i := i) (y := y) (py := py) (spos := p) hh h2 hN (by rw [hh.site.sc]; exact g3)
              cases ez
              refine PS.imp (P (sw_trueD (by rw [hh.site.sc]; exact g2) (by rw [hh.site.sc]; exact g3) g4 g5)) fun B σ H ⟨Γ, δ, O, E, fr, hev, en⟩ => ?_
              simp only [ex, evO, ev] at hev
              refine ⟨by rw [← fr.len]; exact hev.1, Γ, δ, O, _, _, fr, hev.2, fun d v H1 ⟨r, e1, hk⟩ l rp => ?_, en.x fr⟩
              exact ⟨Γ, O, d, r, (fr.later l).otr, rp, e1, fun v' H' sm rr => fin fr en _ _ _ O hk ⟨fr.later (l.trans (Later.of_same fr.gh l.w sm)), fr.ext (l.trans (Later.of_same fr.gh l.w sm)), l.trans (Later.of_same fr.gh l.w sm), fun _ z => z, rr, fun _ _ z => by cases z⟩⟩
            | _ => simp [lcTrue] at h3
      | [], hc => simp [chkS] at hc
      | _ :: _ :: _, hc => simp [chkS] at hc
    | _ => simp [chkS] at hc
  | .par is es, st, hc => by
    cases st with
    | Assign tgs' ee p =>
      match tgs', hc with
      | [tg0], hc =>
        simp only [chkS, Bool.and_eq_true] at hc
        obtain ⟨h1, h2⟩ := hc
        have hh := h.toHere
        have fin : ∀ {B : Ends} {σ : L2.St} {H : Hp} {Γ : Gh} {δ : Dl} {O : Addr → Prop} {E : En}, Fr (kwOf X) Γ δ σ H O → EnOk (kwOf X) xr W Γ H O B E → ∀ ss vs as H' O', (∃ δ', setAll δ is ss = some δ' ∧ E.nx δ') → Fr (kwOf X) Γ δ σ H' O' → Ext H H' O O' → Owns (kwOf X) Γ H' O' ss vs as → (∀ b ∈ as, H b = none) →
            vs.length = is.length ∧ B.nx (setV σ is vs) H' := by
          intro B σ H Γ δ O E fr en ss vs as H' O' hk f' x' w n'
          obtain ⟨δ', e1, hk⟩ := hk
          refine ⟨?_, en.nx _ _ H' O' hk (Fr.setAll w f' e1 fun b hb j es hj => fr.nslot (n' b hb) j es hj) x'⟩
          clear hk f' x'
          have l1 : ∀ {is : List Nat} {ss : List Slot} {δ δ' : Dl}, setAll δ is ss = some δ' → ss.length = is.length := by
            intro is
            induction is with
            | nil => intro ss δ δ' h; cases ss <;> simp [setAll] at h ⊢
            | cons i is ih =>
              intro ss δ δ' h
              cases ss with
              | nil => simp [setAll] at h
              | cons s ss =>
                simp only [setAll] at h
                split at h
                · simp [ih h]
                · cases h
          have l2 : ∀ {ss : List Slot} {vs : List V} {as : List Addr}, Owns (kwOf X) Γ H' O' ss vs as → vs.length = ss.length := by
            intro ss vs as w
            induction w <;> simp_all
          rw [l2 w, l1 e1]
        simp only [Bool.or_eq_true] at h1
        rcases h1 with h1 | h1
        · unfold parChk at h1
          split at h1
          · simp only [parN, Bool.and_eq_true, decide_eq_true_eq] at h1
            obtain ⟨⟨⟨⟨a1, a2⟩, b1, b2⟩, c1⟩, c2⟩ := h1
            refine PS.imp (ps_par (pos := p) hh.site.calm hh.nd (by rw [hh.hN]; exact a1) (by rw [hh.hN]; exact b1) c1 (by rw [hh.site.sc]; exact a2) (by rw [hh.site.sc]; exact b2) (sOs hh es _ h2) (swap_eq (by rw [hh.site.sc]; exact c2))) fun B σ H ⟨Γ, δ, O, E, fr, hev, en⟩ => ?_
            simp only [ex] at hev
            refine ⟨Γ, δ, O, _, _, fr, hev, fun ss vs as H' O' hk f' x' l' sb w n' => ?_, en.x fr⟩
            obtain ⟨hl, hq⟩ := fin fr en ss vs as H' O' hk f' x' w n'
            match vs, hl with
            | [v, u], _ => exact ⟨v, u, rfl, hq⟩
          · simp only [parN, Bool.and_eq_true, decide_eq_true_eq] at h1
            obtain ⟨⟨⟨⟨⟨⟨⟨a1, a2⟩, b1, b2⟩, d1, d2⟩, c1⟩, c3⟩, c4⟩, c2⟩ := h1
            refine PS.imp (ps_par3 (pos := p) hh.site.calm hh.nd (by rw [hh.hN]; exact a1) (by rw [hh.hN]; exact b1) (by rw [hh.hN]; exact d1) c1 c3 c4 (by rw [hh.site.sc]; exact a2) (by rw [hh.site.sc]; exact b2) (by rw [hh.site.sc]; exact d2) (sOs hh es _ h2) (swap_eq (by rw [hh.site.sc]; exact c2))) fun B σ H ⟨Γ, δ, O, E, fr, hev, en⟩ => ?_
            simp only [ex] at hev
            refine ⟨Γ, δ, O, _, _, fr, hev, fun ss vs as H' O' hk f' x' l' sb w n' => ?_, en.x fr⟩
            obtain ⟨hl, hq⟩ := fin fr en ss vs as H' O' hk f' x' w n'
            match vs, hl with
            | [v, u, z], _ => exact ⟨v, u, z, rfl, hq⟩
          · cases h1
        · unfold parTup at h1
          split at h1
          case h_2 => cases h1
          simp only [Bool.and_eq_true, decide_eq_true_eq] at h1
          obtain ⟨⟨a1, a2⟩, c2⟩ := h1
          refine PS.imp (ps_asg (pos := p) (pe_tup (sOs hh es _ h2)) (pg_tup hh.site.calm (pgs_names h a1) ((assign_len (parNs_stars a1)).1.trans (parNs_len a1)) (assign_len (parNs_stars a1)).2) (compFree_ok rfl) (swap_eq (by rw [hh.site.sc]; exact c2)) (tgt_one rfl)) fun B σ H ⟨Γ, δ, O, E, fr, hev, en⟩ => ?_
          simp only [ex] at hev
          refine ⟨Γ, δ, O, _, _, fr, hev, fun ss vs as H' O' hk f' x' l' sb w n' => ?_, en.x fr⟩
          have hl0 := (fin fr en ss vs as H' O' hk f' x' w n').1
          refine ⟨by rw [hl0, ← parNs_len a1, sizeLine_eq]; omega, fun T hT => ?_⟩
          have sm : Same H' (upd H' T (.tup vs)) := same_upd hT
          have lt := Later.of_same f'.gh f'.w sm
          obtain ⟨hl, hq⟩ := fin fr en ss vs as _ O' hk (f'.later lt) (x'.trans (f'.ext lt)) (w.same sm) n'
          exact ⟨T, vs, rfl, .inl (.inl upd_same), hl, gNames_set hl hq⟩
      | [], hc => simp [chkS] at hc
      | _ :: _ :: _, hc => simp [chkS] at hc
    | _ => simp [chkS] at hc
  | .app i e, st, hc => by
    cases st with
    | Expr ee p =>
      cases ee with
      | Call fe args kws pc =>
        cases fe with
        | Attribute o m ap =>
          cases o with
          | Name y py =>
            match args, kws, hc with
            | [ea], [], hc =>
              simp only [chkS, Bool.and_eq_true, decide_eq_true_eq] at hc
              obtain ⟨⟨⟨⟨h1, rfl⟩, h3⟩, h4⟩, h5⟩ := hc
              have hh := h.toHere
              refine PS.imp (ps_expr (pos := p) (pe_bm PySem.F.plainAttrs_list PySem.F.slot_list_append PySem.F.type_list_append mt_append (sV hh i _ h1) (pa_cons (sE hh false e ea h5) pa_nil (star_cons h3)) (base_ok rfl) (by rw [star_cons h3]; rfl) h4 (star_cons h3) rfl) (swapsWith_free rfl)) fun B σ H ⟨Γ, δ, O, E, fr, hev, en⟩ => ?_
              simp only [ex] at hev
              split at hev
              · rename_i ds e1
                obtain ⟨v, e2, a, vs, rfl, g1, g2, g3, g4⟩ := fr.slot i _ e1
                refine ⟨_, e2, .inl ⟨rfl, vs, .inl (.inl g1)⟩, Γ, δ, O, _, _, fr, hev, fun d y H' hk l rp => ?_, en.x fr⟩
                have f1 := fr.later l
                have ga : H' a = some (.lst vs) := l.same a _ g1 (fr.noM g3)
                have gr := Reps.ext (fr.ext l) ds vs g4
                obtain ⟨f2, x2⟩ := f1.push e1 e2 ga g2 g3 gr rp
                exact ⟨a, vs, y, rfl, rfl, ga, by rw [gr.length]; exact hk.1, en.nx _ _ _ O hk.2 f2 ((fr.ext l).trans x2)⟩
              · exact hev.elim
            | [], _, hc => simp [chkS] at hc
            | [_], _ :: _, hc => simp [chkS] at hc
            | _ :: _ :: _, _, hc => simp [chkS] at hc
          | _ => simp [chkS] at hc
        | _ => simp [chkS] at hc
      | _ => simp [chkS] at hc
    | _ => simp [chkS] at hc
  | .frz i, st, hc => by cases st <;> simp [chkS] at hc
  | .seq a b, st, hc => by cases st <;> simp [chkS] at hc
  | .ite c a b, st, hc => by
    cases st with
    | If ec sa sb p =>
      simp only [chkS, Bool.and_eq_true] at hc
      refine PS.imp (ps_if (pos := p) (sT h.toHere c ec hc.1.1) (sSs h a sa hc.1.2) (sSs h b sb hc.2)) fun B σ H ⟨Γ, δ, O, E, fr, hev, en⟩ => ?_
      simp only [ex] at hev
      refine ⟨Γ, δ, O, _, _, fr, hev, fun z H' hk l => ?_, en.x fr⟩
      cases z with
      | true => exact ⟨Γ, δ, O, E, fr.later l, hk, en.ext (fr.ext l)⟩
      | false => exact ⟨Γ, δ, O, E, fr.later l, hk, en.ext (fr.ext l)⟩
    | _ => simp [chkS] at hc
  | .for_ t it b, st, hc => by
    cases st with
    | For tg ie body orelse p =>
      simp only [chkS, Bool.and_eq_true, List.isEmpty_iff] at hc
      obtain ⟨⟨⟨⟨rfl, h2⟩, h3⟩, h4⟩, h5⟩ := hc
      have hh := h.toHere
      refine PS.imp (ps_for (pos := p) h.po hh.site.calm (sI hh false it tg ie h3) (sTg hh.hN hh.nd hh.site.sc h.fn hh.site.calm t tg h4) (sSs h b body h5) (fun y => by cases ie <;> first | rfl | (simp [notSet] at h2))) fun B σ H ⟨Γ, δ, O, E, fr, hev, en⟩ => ?_
      simp only [ex] at hev
      refine ⟨Γ, δ, O, _, _, fr, hev, fun xs J H1 hk l wk => ?_, en.x fr⟩
      obtain ⟨G, Y, w, hw⟩ := wk
      have f1 := fr.later l
      refine for_it w (fun i σ' H' => ∃ δ' O', Fr (kwOf X) Γ δ' σ' H' O' ∧ loopS (fun y δ' E' => bindT t y δ' fun δ1 => ex C b δ1 E') (xs.drop i) δ' E ∧ Ext H1 H' O O') ⟨δ, O, f1, hk, .refl⟩ ?_ ?_ ?_
      · rintro i σ' H' _ ⟨δ', O', f', _, x'⟩
        exact (hw H' O' x' (fun z => by cases z) f'.otr).1
      · rintro i y σ' H' H2 hi ⟨δ', O', f', hl, x'⟩ hy
        obtain ⟨s2, d, ed, rd⟩ := (hw H' O' x' (fun z => by cases z) f'.otr).2 i y H2 hi hy
        have hdrop : xs.drop i = d :: xs.drop (i + 1) := by
          obtain ⟨h', e'⟩ := List.getElem?_eq_some_iff.mp ed
          rw [List.drop_eq_getElem_cons h', e']
        rw [hdrop] at hl
        simp only [loopS] at hl
        have l2 : Later Γ H' H2 := Later.of_same f'.gh f'.w s2
        have f2 := f'.later l2
        have x2 : Ext H1 H2 O O' := x'.trans (f'.ext l2)
        refine ⟨Γ, δ', O', d, _, f2, hl, TRep.ofW rd (plain_tup h3 h4), fun δ3 σ3 hk3 f3 _ => ⟨Γ, δ3, O', _, f3, hk3, ?_⟩⟩
        refine ⟨fun δ4 σ4 H4 O4 hk4 f4 x4 => ⟨δ4, O4, f4, hk4, x2.trans x4⟩, en.rt, fun δ4 σ4 H4 O4 hk4 f4 x4 => en.nx δ4 σ4 H4 O4 hk4 f4 ((fr.ext l).trans (x2.trans x4)), fun δ4 σ4 H4 O4 hk4 f4 x4 => ⟨δ4, O4, f4, hk4, x2.trans x4⟩, en.xc⟩
      · rintro σ' H' ⟨δ', O', f', hl, x'⟩
        have : xs.drop xs.length = [] := by simp
        rw [this] at hl
        simp only [loopS] at hl
        exact en.nx δ' σ' H' O' hl f' ((fr.ext l).trans x')
    | _ => simp [chkS] at hc
  | .while_ c b, st, hc => by
    cases st with
    | While ec body orelse p =>
      simp only [chkS, Bool.and_eq_true, List.isEmpty_iff] at hc
      obtain ⟨⟨rfl, h2⟩, h3⟩ := hc
      refine PS.imp (ps_while (pos := p) h.po (sT h.toHere c ec h2) (sSs h b body h3)) fun B σ H ⟨Γ, δ, O, E, fr, hev, en⟩ => ?_
      simp only [ex] at hev
      obtain ⟨m, hev⟩ := hev
      refine ⟨fun m σ' H' => ∃ δ' O', Fr (kwOf X) Γ δ' σ' H' O' ∧ loopW (evT C c) (ex C b) m δ' E ∧ Ext H H' O O', ⟨m, δ, O, fr, hev, .refl⟩, ?_⟩
      rintro m σ1 H1 ⟨δ1, O1, f1, hl, x1⟩
      cases m with
      | zero => exact hl.elim
      | succ m =>
        simp only [loopW] at hl
        refine ⟨Γ, δ1, O1, _, _, f1, hl, fun z H2 hk l => ?_, (en.ext x1).x f1⟩
        have f2 := f1.later l
        have x2 := x1.trans (f1.ext l)
        cases z with
        | true =>
          refine ⟨fun σ' H' => ∃ δ' O', Fr (kwOf X) Γ δ' σ' H' O' ∧ loopW (evT C c) (ex C b) m δ' E ∧ Ext H H' O O', fun σ' H' h => ⟨m, Nat.lt_succ_self m, h⟩, Γ, δ1, O1, _, f2, hk, ?_⟩
          exact ⟨fun δ4 σ4 H4 O4 hk4 f4 x4 => ⟨δ4, O4, f4, hk4, x2.trans x4⟩, en.rt, fun δ4 σ4 H4 O4 hk4 f4 x4 => en.nx δ4 σ4 H4 O4 hk4 f4 (x2.trans x4), fun δ4 σ4 H4 O4 hk4 f4 x4 => ⟨δ4, O4, f4, hk4, x2.trans x4⟩, en.xc⟩
        | false => exact en.nx δ1 σ1 H2 O1 hk f2 x2
    | _ => simp [chkS] at hc
  | .brk, st, hc => by
    cases st with
    | Break p => exact PS.imp (ps_break (pos := p)) fun B σ H ⟨Γ, δ, O, E, fr, hev, en⟩ => en.bk δ σ H O (by simpa [ex] using hev) fr .refl
    | _ => simp [chkS] at hc
  | .cnt, st, hc => by
    cases st with
    | Continue p => exact PS.imp (ps_continue (pos := p)) fun B σ H ⟨Γ, δ, O, E, fr, hev, en⟩ => en.ct δ σ H O (by simpa [ex] using hev) fr .refl
    | _ => simp [chkS] at hc
  | .never, st, hc => PS.imp ps_never fun B σ H ⟨Γ, δ, O, E, fr, hev, en⟩ => by simp [ex] at hev
termination_by c => 2 * sizeOf c
theorem sSs {X : Cx} {sc : Scope} {fn : Str → Bool} {W : WX} (h : HereS X F N sc fn C xr n W) : ∀ (c : CS) (sts : List Stmt), chkSs F N sc fn c sts = true → PSs X sts (tS (kwOf X) xr C W c)
  | .nop, [], hc => PSs.imp pss_nil fun B σ H ⟨Γ, δ, O, E, fr, hev, en⟩ => en.nx δ σ H O (by simpa [ex] using hev) fr .refl
  | .seq a b, sts, hc => by
    by_cases ha : ∃ i, a = .frz i
    · obtain ⟨i, rfl⟩ := ha
      simp only [chkSs] at hc
      refine PSs.imp (sSs h b sts hc) fun B σ H ⟨Γ, δ, O, E, fr, hev, en⟩ => ?_
      simp only [ex] at hev
      split at hev
      · rename_i ds e1
        obtain ⟨O1, f1, x1⟩ := fr.freeze e1
        exact ⟨Γ, _, O1, E, f1, hev, en.ext x1⟩
      · exact ⟨Γ, δ, O, E, fr, hev, en⟩
    · cases sts with
      | nil => cases a <;> first | (simp [chkSs] at hc; done) | exact absurd ⟨_, rfl⟩ ha
      | cons st sts =>
        have hc' : chkS F N sc fn a st = true ∧ chkSs F N sc fn b sts = true := by
          cases a <;> first | (simpa [chkSs] using hc) | exact absurd ⟨_, rfl⟩ ha
        refine PSs.imp (pss_cons (sS h a st hc'.1) (sSs h b sts hc'.2)) fun B σ H ⟨Γ, δ, O, E, fr, hev, en⟩ => ?_
        simp only [ex] at hev
        exact ⟨Γ, δ, O, _, fr, hev, ⟨fun δ' σ' H' O' hk f' x' => ⟨Γ, δ', O', E, f', hk, en.ext x'⟩, en.rt, en.bk, en.ct, en.xc⟩⟩
  | .nop, _ :: _, hc => by simp [chkSs] at hc
  | .expr _, _, hc => by simp [chkSs] at hc
  | .ret _, _, hc => by simp [chkSs] at hc
  | .retO _, _, hc => by simp [chkSs] at hc
  | .retV _, _, hc => by simp [chkSs] at hc
  | .retN, _, hc => by simp [chkSs] at hc
  | .asg _ _, _, hc => by simp [chkSs] at hc
  | .asgO _ _, _, hc => by simp [chkSs] at hc
  | .par _ _, _, hc => by simp [chkSs] at hc
  | .app _ _, _, hc => by simp [chkSs] at hc
  | .frz _, _, hc => by simp [chkSs] at hc
  | .ite _ _ _, _, hc => by simp [chkSs] at hc
  | .for_ _ _ _, _, hc => by simp [chkSs] at hc
  | .while_ _ _, _, hc => by simp [chkSs] at hc
  | .brk, _, hc => by simp [chkSs] at hc
  | .cnt, _, hc => by simp [chkSs] at hc
  | .never, _, hc => by simp [chkSs] at hc
termination_by c => 2 * sizeOf c + 1
end
end
end Tk
namespace Tk
open PySem PySem.Spec PyProof.Rows L2
abbrev kk (K : PySem.W.Frag) (P : Program) (w : World) : KW := ⟨K, P, w⟩
structure Def where
  st : Stmt
  nm : Str
  ps : List Str
  N : List Str
  body : CS
inductive Ent where
  | code (d : Def)
  | prim (nm : Str) (np lvl : Nat) (sem : List Slot → (Slot → Prop) → KX → Prop)
def Ent.sig : Ent → Str × Nat
  | .code d => (d.nm, d.ps.length)
  | .prim nm np _ _ => (nm, np)
def tabF (T : List Ent) : FT := fun f => (T[f]?).map Ent.sig
def startD (n : Nat) (ss : List Slot) : Dl := ss.map some ++ List.replicate (n - ss.length) none
def enD (k : Slot → Prop) (x : KX) : En := ⟨fun _ => k (.val .none), k, fun _ => False, fun _ => False, fun e _ => x e⟩
/-- what a call of the f-th means, n calls deep at most -/
def callW (T : List Ent) (G : Str → Option D) : Nat → Nat → List Slot → (Slot → Prop) → KX → Prop
  | 0, _, _, _, _ => False
  | n + 1, f, ss, k, x => match T[f]? with
    | some (.code d) => ss.length = d.ps.length ∧ ex ⟨callW T G n, G⟩ d.body (startD d.N.length ss) (enD k x)
    | some (.prim _ np lvl sem) => lvl ≤ n ∧ ss.length = np ∧ sem ss k x
    | none => False
theorem callW_len {T : List Ent} {G : Str → Option D} {n f np : Nat} {nm : Str} {ss : List Slot} {k : Slot → Prop} {x : KX} (hF : tabF T f = some (nm, np)) (h : callW T G n f ss k x) : ss.length = np := by
  cases n with
  | zero => exact h.elim
  | succ n =>
    unfold callW at h
    unfold tabF at hF
    cases e : T[f]? with
    | none => rw [e] at hF; cases hF
    | some t =>
      rw [e] at h hF
      cases t with
      | code d => cases hF; exact h.1
      | prim nm np lvl sem => cases hF; exact h.2.1
def scopeC (N ps : List Str) (sc : Scope) : Bool := decide (sc.kind = .function) && !sc.isCoroutine && !sc.isGenerator && decide N.Nodup && decide (N.take ps.length = ps)
  && (ps.all fun x => decide (sc.names.lookup x = some .local) || decide (sc.names.lookup x = some .cell)) && (sc.names.all fun y => decide (y.2 ≠ .free))
theorem scope_by {N ps : List Str} {sc : Scope} (h : scopeC N ps sc = true) : FnScope N ps sc := by
  simp only [scopeC, Bool.and_eq_true, Bool.or_eq_true, decide_eq_true_eq, Bool.not_eq_true', List.all_eq_true] at h
  obtain ⟨⟨⟨⟨⟨⟨h1, h2⟩, h3⟩, h4⟩, h5⟩, h6⟩, h7⟩ := h
  exact ⟨h1, h2, h3, h4, h5, h6, h7⟩
/-- a def is written as its core term says -/
structure DOk (F : FT) (d : Def) : Prop where
  sc : scopeC d.N d.ps (defScope d.st) = true
  bind : ∀ (kV doc pm : Value) (an : Option Addr) (cdv ct : Value) (us : List Value), us.length = d.ps.length → bindArgs (PySem.W.fnOf d.nm d.nm (defArgs d.st) (defBody d.st) (defScope d.st) .none kV doc pm an cdv ct) ⟨us, []⟩ = pure (d.ps.zip us)
  ck : chkSs F d.N (defScope d.st) (fun _ => true) d.body (defBody d.st) = true
section
variable {P : Program} {w : World} {K : PySem.W.Frag} {mg : Str → Option Value} {base : Heap} {T : List Ent} {G : Str → Option D} {xr : XRep}
theorem FnG.mono {j k : Nat} {f : Addr} {fd : FuncData} {ps : List Str} {sp : Sp} (F : FnG P w (kk K P w) mg base j f fd ps sp) (h : j ≤ k) : FnG P w (kk K P w) mg base k f fd ps sp :=
  ⟨F.len, fun A outer s H args us vs Q E hr => F.run A outer s H args us vs Q E (hr.mono h)⟩
/-- as fn_of, where no repr is under way -/
theorem fnG_of {k : Nat} {f : Addr} {name qual : Str} {params : Arguments} {body : List Stmt} {scope : Scope} {dV kV doc pm cdv ct oc : Value} {an od : Option Addr}
    {osl : Array (Option Value)} {N ps : List Str} {sp : Sp} (lk : K.lookup f = some ⟨oc, od, .func (PySem.W.fnOf name qual params body scope dV kV doc pm an cdv ct), osl⟩) (hcd : PySem.W.codeIn K cdv qual = true) (S : FnScope N ps scope)
    (len : ∀ vs H Q E, sp vs H Q E → vs.length = ps.length)
    (hbody : ∀ (A : Around) (outer : List Env) (s : Shared) (H : Hp) (vs : List V) (Q : VK) (E : XK), Mod K mg base → Room k (A.deeper (envOfC qual scope s.heap.objs.size f cdv)) → A.guards = some [] → sp vs H Q E →
      ∃ t, PSs (cxOf (L2.CX P w) P w K mg base N qual scope f cdv A outer s H E) body t ∧ t { nx := fun _ H' => Q .non H', rt := Q } (start N vs) H) :
    FnG P w (kk K P w) mg base (k + 1) f (PySem.W.fnOf name qual params body scope dV kV doc pm an cdv ct) ps sp := by
  refine ⟨len, fun A outer s H args us vs Q E hr hg e0 hb r hsp => ?_⟩
  have hl := len _ _ _ _ hsp
  have KX : K.In s.heap := e0.mod.kin.keeps fun b o e => (e0.bs b o e).1
  have lim : s.heap.NoLimit := e0.mod.nolimit.keeps fun b o e => (e0.bs b o e).1
  have hkind : ∀ y ∈ ps.zip us, scope.names.lookup y.1 = some .local ∨ (scope.names.lookup y.1 = some .cell ∧ ((cellsFrom (s.heap.objs.size + 1) scope.names []).lookup y.1).isSome = true) := fun ⟨n, v⟩ hy => by
    rcases S.par n (List.of_mem_zip hy).1 with q | q
    · exact .inl q
    · exact .inr ⟨q, PySem.W.cellsFrom_some _ _ _ (.inl q)⟩
  refine codeAny_call_function hr.depth (KX _ _ lk) rfl S.co S.gen rfl (PySem.W.codeRec_of KX hcd) (hb _ _ _ _ ?_)
  refine wpAny_newFunctionEnv_cells S.kind hkind fun env he s1 x => ?_
  subst he
  refine ⟨lim.keeps x.toInCall.keep, codeAny_func ?_⟩
  obtain ⟨t, ht, hq⟩ := hbody A outer s H vs Q E e0.mod (hr.deeper _) hg hsp
  have I : L2.Inv (cxOf (L2.CX P w) P w K mg base N qual scope f cdv A outer s H E) [] (start N vs) H s1 := inv_start S hr.hd e0 hl r x
  refine wpAny_mono (ht.run [] s1 (start N vs) H _ I hq) (fun fl s' hs => ?_) fun e s' hs => hs
  have fin : ∀ {σ' : L2.St} {H' : Hp} {v : V} {u : Value}, L2.Inv (cxOf (L2.CX P w) P w K mg base N qual scope f cdv A outer s H E) [] σ' H' s' → L2.RelV v u → Q v H' → L2.CE outer P w H s Q u s' :=
    fun {σ' H' v u} J rv q => ⟨v, H', J.os, J.bare, J.base, J.hok, rv, q⟩
  cases fl with
  | ret u =>
    obtain ⟨v, σ', H', J, rv, q⟩ := hs
    exact fin J rv q
  | next =>
    obtain ⟨σ', H', J, q⟩ := hs
    exact fin (v := V.non) (u := Value.none) J rfl q
  | brk =>
    obtain ⟨_, _, _, q⟩ := hs
    exact False.elim q
  | cont =>
    obtain ⟨_, _, _, q⟩ := hs
    exact False.elim q
/-- the facts of the module that the table leans on -/
structure Tab (mg : Str → Option Value) (K : PySem.W.Frag) (P : Program) (w : World) (T : List Ent) (G : Str → Option D) (xr : XRep) : Prop where
  blt : ∀ x ∈ bltNames, mg x = none
  glob : ∀ x d, G x = some d → isDictD d = false → ∃ u v, mg x = some u ∧ L2.RelV v u ∧ ∀ H O, Rep (kk K P w) H O v d
  gd : ∀ x es, G x = some (.dict es) → ∃ d ens n, mg x = some (.ref d) ∧ KDict K w d ens n ∧ ∀ z : Str, ∃ r, PySem.W.nsIn K d z = some r ∧ (lookD es (.inr z)).isSome = r.isSome ∧
    ∀ v, lookD es (.inr z) = some v → ∃ u0 v0, r = some u0 ∧ L2.RelV v0 u0 ∧ ∀ H O, Rep (kk K P w) H O v0 v
  xm : ∀ H (O O1 : Addr → Prop) e cls dd, (∀ b, O b → O1 b) → xr H O1 e cls dd → xr H O e cls dd
  code : ∀ (f : Nat) d, T[f]? = some (.code d) → DOk (tabF T) d ∧ ∃ a fd, mg d.nm = some (.ref a) ∧ FunD K d.nm d.nm (defArgs d.st) (defBody d.st) (defScope d.st) [] [] a fd
  prim : ∀ (f : Nat) nm np lvl sem, T[f]? = some (.prim nm np lvl sem) → ∃ a fd ps, mg nm = some (.ref a) ∧ PySem.W.keepIn K (.ref a) = true ∧ ps.length = np ∧ Binds K fd ps [] ∧
    ∀ base, FnG P w (kk K P w) mg base lvl a fd ps (spC (kk K P w) xr (fun _ ss k x => ss.length = np ∧ sem ss k x) f np)
theorem start_slots {Γ : Gh} {H : Hp} {O : Addr → Prop} : ∀ {ss : List Slot} {vs : List V}, AReps (kk K P w) Γ H O ss vs → ∀ (i : Nat) s, ss[i]? = some s → ∃ v, vs[i]? = some v ∧ SRep (kk K P w) Γ H O s v ∧ ∀ ds, s ≠ .own ds
  | _, _, .nil, i, s, e => by simp at e
  | _, _, .cons (s := s0) h r, 0, s, e => by
    simp at e; subst e
    refine ⟨_, rfl, ?_⟩
    cases s0 with
    | val d => exact ⟨h, fun ds z => by cases z⟩
    | st => exact ⟨h, fun ds z => by cases z⟩
    | own _ => exact h.elim
  | _, _, .cons h r, i + 1, s, e => by
    obtain ⟨v, e1, e2⟩ := start_slots r i s (by simpa using e)
    exact ⟨v, by simpa using e1, e2⟩
theorem fr_start {Γ : Gh} {H : Hp} {O : Addr → Prop} {N : List Str} {ss : List Slot} {vs : List V} (hg : Γ.Ok) (hw : Γ.W H) (ho : OTr O H) (hm : ∀ b, Γ.M b → O b) (ar : AReps (kk K P w) Γ H O ss vs) (hl : ss.length ≤ N.length) :
    Fr (kk K P w) { Γ with H0 := H, O0 := O } (startD N.length ss) (start N vs) H O := by
  have hlen := ar.length
  have key : ∀ (i : Nat) s, (startD N.length ss)[i]? = some (some s) → ss[i]? = some s := fun i s e => by
    unfold startD at e
    by_cases hi : i < ss.length
    · rw [List.getElem?_append_left (by simpa using hi), List.getElem?_map] at e
      cases q : ss[i]? with
      | none => rw [q] at e; cases e
      | some z => rw [q] at e; cases e; rfl
    · rw [List.getElem?_append_right (by simpa using hi), List.getElem?_replicate] at e
      split at e <;> cases e
  refine ⟨⟨hg.so, hm, ho, hg.wm, hg.ws, hg.wt, hg.wf⟩, ?_, fun _ _ h _ => h, fun _ h => h, ho, hw, fun i s e => ?_, fun i j a ds es h1 _ _ _ => ?_⟩
  · simp [startD, L2.start, hlen]
  · have e' := key i s e
    obtain ⟨v, e1, e2, _⟩ := start_slots ar i s e'
    refine ⟨v, ?_, ?_⟩
    · unfold L2.start
      have hi : i < vs.length := (List.getElem?_eq_some_iff.mp e1).1
      rw [List.getElem?_append_left (by simpa using hi), List.getElem?_map, e1]
      rfl
    · cases s with
      | val d => exact e2
      | st => exact e2
      | own ds =>
        obtain ⟨_, _, _, h3⟩ := start_slots ar i _ e'
        exact absurd rfl (h3 ds)
  · obtain ⟨_, _, _, h3⟩ := start_slots ar i _ (key i _ h1)
    exact absurd rfl (h3 ds)
/-- EACH DEF KEEPS ITS PROMISE -/
theorem sound (tb : Tab mg K P w T G xr) (base : Heap) : ∀ n f nm np, tabF T f = some (nm, np) → ∃ a fd ps, mg nm = some (.ref a) ∧ PySem.W.keepIn K (.ref a) = true ∧ ps.length = np ∧ Binds K fd ps [] ∧ FnG P w (kk K P w) mg base n a fd ps (spC (kk K P w) xr (callW T G n) f np) := by
  intro n
  induction n with
  | zero =>
    intro f nm np hF
    unfold tabF at hF
    cases e : T[f]? with
    | none => rw [e] at hF; cases hF
    | some t =>
      rw [e] at hF
      have no : ∀ {a : Addr} {fd : FuncData} {ps : List Str}, FnG P w (kk K P w) mg base 0 a fd ps (spC (kk K P w) xr (callW T G 0) f np) := fun {a fd ps} =>
        ⟨fun vs H Q E ⟨_, _, _, _, _, _, _, _, _, _, _, h, _⟩ => h.elim, fun A outer s H args us vs Q E _ _ _ _ _ ⟨_, _, _, _, _, _, _, _, _, _, _, h, _⟩ => h.elim⟩
      cases t with
      | code d =>
        cases hF
        obtain ⟨dk, a, fd, m1, fu⟩ := tb.code f d e
        exact ⟨a, fd, d.ps, m1, fu.kp, rfl, fu.bindsN dk.bind, no⟩
      | prim nm np lvl sem =>
        cases hF
        obtain ⟨a, fd, ps, m1, m2, m3, m4, m5⟩ := tb.prim f _ _ _ _ e
        exact ⟨a, fd, ps, m1, m2, m3, m4, no⟩
  | succ n ih =>
    intro f nm np hF
    have hF0 := hF
    unfold tabF at hF
    cases e : T[f]? with
    | none => rw [e] at hF; cases hF
    | some t =>
      rw [e] at hF
      cases t with
      | prim nm np lvl sem =>
        cases hF
        obtain ⟨a, fd, ps, m1, m2, m3, m4, m5⟩ := tb.prim f _ _ _ _ e
        refine ⟨a, fd, ps, m1, m2, m3, m4, ?_⟩
        by_cases hn : lvl ≤ n
        · have m6 := (m5 base).mono (Nat.le_succ_of_le hn)
          have imp : ∀ vs H Q E, spC (kk K P w) xr (callW T G (n + 1)) f np vs H Q E → spC (kk K P w) xr (fun _ ss k x => ss.length = np ∧ sem ss k x) f np vs H Q E := fun vs H Q E ⟨h1, Γ, O, ss, k, x, g1, g2, g3, g4, g5, g6, g7⟩ => by
            refine ⟨h1, Γ, O, ss, k, x, g1, g2, g3, g4, g5, ?_, g7⟩
            unfold callW at g6
            rw [e] at g6
            exact g6.2
          exact ⟨fun vs H Q E h => m6.len vs H Q E (imp _ _ _ _ h), fun A outer s H args us vs Q E a1 a2 a3 a4 a5 a6 => m6.run A outer s H args us vs Q E a1 a2 a3 a4 a5 (imp _ _ _ _ a6)⟩
        · have no : ∀ {vs H Q E}, ¬ spC (kk K P w) xr (callW T G (n + 1)) f np vs H Q E := fun {vs H Q E} ⟨_, _, _, _, _, _, _, _, _, _, _, g6, _⟩ => by
            unfold callW at g6
            rw [e] at g6
            exact hn g6.1
          exact ⟨fun vs H Q E h => (no h).elim, fun A outer s H args us vs Q E _ _ _ _ _ a6 => (no a6).elim⟩
      | code d =>
        cases hF
        obtain ⟨dk, a, fd, m1, fu⟩ := tb.code f d e
        refine ⟨a, fd, d.ps, m1, fu.kp, rfl, fu.bindsN dk.bind, ?_⟩
        obtain ⟨oc, od, dV, kV, doc, pm, an, cdv, ct, osl, rfl, lk, hcd, _, _⟩ := fu.ex
        have S := scope_by dk.sc
        have hpN : d.ps.length ≤ d.N.length := by have := congrArg List.length S.pre; rw [List.length_take] at this; omega
        refine fnG_of lk hcd S (fun vs H Q E h => h.1) fun A outer s H vs Q E md hr hg hsp => ?_
        obtain ⟨hvl, Γ, O, ss, k, x, g1, g2, g3, g4, g5, g6, g7, g8⟩ := hsp
        unfold callW at g6
        rw [e] at g6
        obtain ⟨hsl, g6⟩ := g6
        have units := hr.un
        have hh : HereS (cxOf (L2.CX P w) P w K mg base d.N d.nm (defScope d.st) a cdv A outer s H E) (tabF T) d.N (defScope d.st) (fun _ => true) ⟨callW T G n, G⟩ xr n (fun cls dd _ H' => E cls dd H') := by
          refine ⟨⟨⟨rfl, rfl, ?_, hg, tb.blt⟩, ⟨tb.glob, tb.gd, tb.xm, fun f nm np hF ss k x h => callW_len hF h, fun f nm np hF => ih f nm np hF⟩, hr, rfl, S.nd, takes_of rfl rfl rfl rfl⟩, rfl, passes_of rfl⟩
          show (A.deeper _).units + 200 < cLine
          omega
        refine ⟨_, sSs hh d.body _ dk.ck, { Γ with H0 := H, O0 := O }, startD d.N.length ss, O, enD k x, fr_start g1 g2 g3 g4 g5 (by rw [hsl]; exact hpN), g6, ?_⟩
        have ret : ∀ s v H', k s → RetOk (kk K P w) { Γ with H0 := H, O0 := O } H' s v → Q v H' := fun s v H' hk r => by
          obtain ⟨r1, r2, O', r3, r4⟩ := r
          refine g7 s v H' hk ⟨r1, r2⟩ ?_
          cases s with
          | val dd => exact Rep.ext (Ext.sub r3) dd v r4
          | st => exact r4
          | own ds =>
            obtain ⟨b, us, e1, e2, e3, e4, e5⟩ := r4
            exact ⟨b, us, e1, e2, e4, Reps.ext (Ext.sub fun c z => z.elim (r3 c) fun q => by rw [q]; exact e3) ds us e5⟩
        refine ⟨fun δ' σ' H' O' hk f' x' => ret _ _ _ hk (f'.ret (s := .val .none) .non), ret, fun _ _ _ _ z => z.elim, fun _ _ _ _ z => z.elim, fun e' δ' σ' H' O' cls dd hx f' xx => ?_⟩
        exact g8 e' cls dd H' hx ⟨f'.same, f'.w⟩ (tb.xm _ _ _ _ _ _ f'.sub xx)
end
end Tk
namespace Tk
open PySem PySem.Spec PyProof.Rows L2
/-- where a list stands: in a name, in a field -/
inductive LB where
  | var (j : Nat)
  | fld (j : Nat) (key : Str)
  | itm (j i : Nat)
inductive IE where
  | c (i : Int)
  | v (i : Nat)
  | g (j : Nat) (key : Str)
  | gi (j i : Nat)
  | ln (b : LB)
  | ix (b : LB) (a : IE)
  | op (o : Op2) (a b : IE)
def arith : Op2 → Bool
  | .add => true | .sub => true | .mul => true | .fdiv => true | .mod => true | .pow => true | _ => false
def chkV (N : List Str) (sc : Scope) (i : Nat) (x : Str) : Bool := decide (N[i]? = some x) && vis sc x && plainName x
def chkLB (N : List Str) (sc : Scope) : LB → Expr → Bool
  | .var j, .Name x _ => chkV N sc j x
  | .fld j key, .Subscript (.Name x _) (.Constant (.str y) _ _) _ => chkV N sc j x && decide (y = key)
  | .itm j i, .Subscript (.Name x _) (.Constant (.int n) _ _) _ => chkV N sc j x && decide (n = (i : Nat))
  | _, _ => false
def chkIE (N : List Str) (sc : Scope) : IE → Expr → Bool
  | .c i, .Constant (.int j) _ _ => i == j
  | .v i, .Name x _ => chkV N sc i x
  | .g j key, .Subscript (.Name x _) (.Constant (.str y) _ _) _ => chkV N sc j x && decide (y = key)
  | .gi j i, .Subscript (.Name x _) (.Constant (.int n) _ _) _ => chkV N sc j x && decide (n = (i : Nat))
  | .ln b, e => match chkOp1 sc .len e with
    | some ea => chkLB N sc b ea
    | none => false
  | .ix b a, e => match chkOp2 sc .ix e with
    | some (ea, eb) => chkLB N sc b ea && chkIE N sc a eb
    | none => false
  | .op o a b, e => arith o && match chkOp2 sc o e with
    | some (ea, eb) => chkIE N sc a ea && chkIE N sc b eb
    | none => false
  | _, _ => false
def fldV (σ : L2.St) (H : Hp) (j : Nat) (key : Str) : Option V := match σ[j]? with
  | some (some (.ref a)) => match H a with
    | some (.dK kvs) => valV kvs (.inr key)
    | _ => none
  | _ => none
def itmV (σ : L2.St) (H : Hp) (j i : Nat) : Option V := match σ[j]? with
  | some (some (.ref a)) => match H a with
    | some (.lst vs) => vs[i]?
    | _ => none
  | _ => none
def lbV (σ : L2.St) (H : Hp) : LB → Option V
  | .var j => match σ[j]? with
    | some (some (.ref a)) => some (.ref a)
    | _ => none
  | .fld j key => fldV σ H j key
  | .itm j i => itmV σ H j i
def intsV : List V → Option (List Int)
  | [] => some []
  | .int i :: r => (intsV r).map (i :: ·)
  | _ => none
def lbN (σ : L2.St) (H : Hp) (b : LB) : Option (List Int) := match lbV σ H b with
  | some (.ref a) => match H a with
    | some (.lst vs) => intsV vs
    | _ => none
  | _ => none
def ieV (σ : L2.St) (H : Hp) : IE → Option Int
  | .c i => some i
  | .v i => match σ[i]? with
    | some (some (.int n)) => some n
    | _ => none
  | .g j key => match fldV σ H j key with
    | some (.int n) => some n
    | _ => none
  | .gi j i => match itmV σ H j i with
    | some (.int n) => some n
    | _ => none
  | .ln b => (lbN σ H b).map fun ns => (ns.length : Nat)
  | .ix b a => match lbN σ H b, ieV σ H a with
    | some ns, some i => atI ns i
    | _, _ => none
  | .op o a b => match ieV σ H a, ieV σ H b with
    | some i, some j => match sem2 o (.int i) (.int j) with
      | some (.int r) => some r
      | _ => none
    | _, _ => none
section
variable {X : Cx} {N : List Str} {sc : Scope} {σ : L2.St} {H H' : Hp}
theorem fldV_same (s : Same H H') {j : Nat} {key : Str} {v : V} (h : fldV σ H j key = some v) : fldV σ H' j key = some v := by
  unfold fldV at h ⊢
  split at h
  · rename_i a e
    split at h
    · rename_i kvs e2
      simp only [e, s _ _ e2]; exact h
    · cases h
  · cases h
theorem itmV_same (s : Same H H') {j i : Nat} {v : V} (h : itmV σ H j i = some v) : itmV σ H' j i = some v := by
  unfold itmV at h ⊢
  split at h
  · rename_i a e
    split at h
    · rename_i kvs e2
      simp only [e, s _ _ e2]; exact h
    · cases h
  · cases h
theorem lbV_same (s : Same H H') {b : LB} {v : V} (h : lbV σ H b = some v) : lbV σ H' b = some v := by
  cases b with
  | var j => exact h
  | fld j key => exact fldV_same s h
  | itm j i => exact itmV_same s h
theorem lbN_ex {b : LB} {ns : List Int} (h : lbN σ H b = some ns) : ∃ a vs, lbV σ H b = some (.ref a) ∧ H a = some (.lst vs) ∧ intsV vs = some ns := by
  unfold lbN at h
  split at h
  · rename_i a e
    split at h
    · rename_i vs e2
      exact ⟨a, vs, e, e2, h⟩
    · cases h
  · cases h
theorem lbN_same (s : Same H H') {b : LB} {ns : List Int} (h : lbN σ H b = some ns) : lbN σ H' b = some ns := by
  obtain ⟨a, vs, e1, e2, e3⟩ := lbN_ex h
  unfold lbN
  simp only [lbV_same s e1, s _ _ e2, e3]
theorem ieV_same (s : Same H H') : ∀ {t : IE} {i : Int}, ieV σ H t = some i → ieV σ H' t = some i
  | .c i, _, h => h
  | .v i, _, h => h
  | .g j key, _, h => by
    simp only [ieV] at h ⊢
    split at h
    · rename_i n e
      rw [fldV_same s e]; exact h
    · cases h
  | .gi j i, _, h => by
    simp only [ieV] at h ⊢
    split at h
    · rename_i n e
      rw [itmV_same s e]; exact h
    · cases h
  | .ln b, _, h => by
    simp only [ieV, Option.map_eq_some_iff] at h ⊢
    obtain ⟨ns, e, h⟩ := h
    exact ⟨ns, lbN_same s e, h⟩
  | .ix b a, _, h => by
    simp only [ieV] at h ⊢
    split at h
    · rename_i ns i e1 e2
      rw [lbN_same s e1, ieV_same s e2]; exact h
    · cases h
  | .op o a b, _, h => by
    simp only [ieV] at h ⊢
    split at h
    · rename_i i j e1 e2
      rw [ieV_same s e1, ieV_same s e2]; exact h
    · cases h
theorem intsV_reps {K : KW} {O : Addr → Prop} : ∀ {vs : List V} {ns : List Int}, intsV vs = some ns → Reps K H O vs (ns.map PyData.int)
  | [], ns, h => by simp [intsV] at h; subst h; exact .nil
  | v :: vs, ns, h => by
    cases v with
    | int i =>
      simp only [intsV, Option.map_eq_some_iff] at h
      obtain ⟨r, e, rfl⟩ := h
      exact .cons (.int i) (intsV_reps e)
    | _ => simp [intsV] at h
theorem intsV_map (ns : List Int) : intsV (ns.map V.int) = some ns := by
  induction ns with
  | nil => rfl
  | cons n ns ih => simp [intsV, ih]
def noG : Gh := ⟨fun _ => none, fun _ => False, fun _ => False, fun _ => True, .non⟩
theorem vis_of (S : Site X sc) {x : Str} (h : vis sc x = true) : Vis X.env.scope x := by
  rw [S.sc]
  unfold vis at h
  split at h
  · exact .inl ‹_›
  · exact .inr (.inl ‹_›)
  · exact .inr (.inr ‹_›)
  · cases h
theorem pe_chkV (S : Site X sc) (hN : X.N = N) {i : Nat} {x : Str} {p : Pos} (h : chkV N sc i x = true) : PE X (.Name x p) (tVar i) := by
  simp only [chkV, Bool.and_eq_true, decide_eq_true_eq] at h
  obtain ⟨⟨h1, h2⟩, h3⟩ := h
  simp only [plainName, Bool.and_eq_true, Bool.not_eq_true'] at h3
  exact pe_var (by rw [hN]; exact h1) (vis_of S h2) h3.1 h3.2
theorem units1 (S : Site X sc) : X.A.units + 1 < cLine := by have := S.units; omega
theorem pe_lb (S : Site X sc) (hN : X.N = N) {b : LB} {e : Expr} (h : chkLB N sc b e = true) : PE X e (fun σ H Q => ∃ v, lbV σ H b = some v ∧ Q v H) := by
  cases b with
  | var j =>
    cases e with
    | Name x p =>
      refine PE.imp (pe_chkV S hN h) fun σ H Q ⟨v, e1, q⟩ => ?_
      simp only [lbV] at e1
      split at e1
      · rename_i a e2
        cases e1
        exact ⟨_, e2, q⟩
      · cases e1
    | _ => simp [chkLB] at h
  | fld j key =>
    cases e with
    | Subscript o i p =>
      cases o with
      | Name x px =>
        cases i with
        | Constant c k pc =>
          cases c with
          | str y =>
            simp only [chkLB, Bool.and_eq_true, decide_eq_true_eq] at h
            obtain ⟨h1, rfl⟩ := h
            refine PE.imp (pe_dget (units1 S) (pe_chkV S hN h1) pe_str (fun _ _ => rfl)) fun σ H Q ⟨v, e1, q⟩ => ?_
            simp only [lbV, fldV] at e1
            split at e1
            · rename_i a e2
              split at e1
              · rename_i kvs e3
                refine ⟨_, e2, a, v, rfl, ?_, q⟩
                have := DGet.k (k := Sum.inr y) e3
                rw [e1] at this
                exact this
              · cases e1
            · cases e1
          | _ => simp [chkLB] at h
        | _ => simp [chkLB] at h
      | _ => simp [chkLB] at h
    | _ => simp [chkLB] at h
  | itm j i =>
    cases e with
    | Subscript o ix p =>
      cases o with
      | Name x px =>
        cases ix with
        | Constant c k pc =>
          cases c with
          | int n =>
            simp only [chkLB, Bool.and_eq_true, decide_eq_true_eq] at h
            obtain ⟨h1, rfl⟩ := h
            refine PE.imp (pe_ix ix_seq (pe_chkV S hN h1) pe_int (plainIx rfl)) fun σ H Q ⟨v, e1, q⟩ => ?_
            simp only [lbV, itmV] at e1
            split at e1
            · rename_i a e2
              split at e1
              · rename_i vs e3
                exact ⟨_, e2, .inl ⟨a, vs, (i : Nat), v, rfl, rfl, .inl (.inl e3), atI_nat e1, q⟩⟩
              · cases e1
            · cases e1
          | _ => simp [chkLB] at h
        | _ => simp [chkLB] at h
      | _ => simp [chkLB] at h
    | _ => simp [chkLB] at h
/-- the reading -/
def tIE (t : IE) : TE := fun σ H Q => ∃ i, ieV σ H t = some i ∧ ∀ H', Same H H' → Q (.int i) H'
theorem mono_tIE {t : IE} : Mono (tIE t) := fun σ H Q Q' hq ⟨i, e, q⟩ => ⟨i, e, fun H' s => hq _ _ (q H' s)⟩
theorem pe_ie (S : Site X sc) (hN : X.N = N) : ∀ (t : IE) (e : Expr), chkIE N sc t e = true → PE X e (tIE t)
  | .c i, e, h => by
    cases e with
    | Constant c k p =>
      cases c with
      | int j =>
        simp only [chkIE, beq_iff_eq] at h
        subst h
        exact PE.imp pe_int fun σ H Q ⟨n, e1, q⟩ => by cases e1; exact q H (.refl _)
      | _ => simp [chkIE] at h
    | _ => simp [chkIE] at h
  | .v i, e, h => by
    cases e with
    | Name x p =>
      refine PE.imp (pe_chkV S hN h) fun σ H Q ⟨n, e1, q⟩ => ?_
      simp only [ieV] at e1
      split at e1
      · cases e1; exact ⟨_, ‹_›, q H (.refl _)⟩
      · cases e1
    | _ => simp [chkIE] at h
  | .g j key, e, h => by
    have h' : chkLB N sc (.fld j key) e = true := by
      unfold chkIE at h; split at h <;> first | exact h | (simp at h) | skip
      all_goals simp_all [chkLB]
    refine PE.imp (pe_lb S hN h') fun σ H Q ⟨n, e1, q⟩ => ?_
    simp only [ieV] at e1
    split at e1
    · cases e1; exact ⟨_, ‹_›, q H (.refl _)⟩
    · cases e1
  | .gi j i, e, h => by
    have h' : chkLB N sc (.itm j i) e = true := by
      unfold chkIE at h; split at h <;> first | exact h | (simp at h) | skip
      all_goals simp_all [chkLB]
    refine PE.imp (pe_lb S hN h') fun σ H Q ⟨n, e1, q⟩ => ?_
    simp only [ieV] at e1
    split at e1
    · cases e1; exact ⟨_, ‹_›, q H (.refl _)⟩
    · cases e1
  | .ln b, e, h => by
    simp only [chkIE] at h
    split at h
    · rename_i ea e1
      refine PE.imp (op1_ok S e1 (pe_lb S hN h) fun σ H Q Q' hq ⟨v, a, b⟩ => ⟨v, a, hq _ _ b⟩) fun σ H Q ⟨n, e2, q⟩ => ?_
      simp only [ieV, Option.map_eq_some_iff] at e2
      obtain ⟨ns, e3, rfl⟩ := e2
      obtain ⟨a, vs, f1, f2, f3⟩ := lbN_ex e3
      refine ⟨_, f1, noG, fun _ => False, .list (ns.map .int), .int (ns.length : Nat), fun _ z => z.elim, ⟨a, vs, rfl, .inl ⟨.inl f2, fun z => z⟩, intsV_reps f3⟩, by simp [sem1, lenD], fun v' H' s r => ?_⟩
      cases r
      exact q H' s
    · cases h
  | .ix b t, e, h => by
    simp only [chkIE] at h
    split at h
    · rename_i ea eb e1
      simp only [Bool.and_eq_true] at h
      refine PE.imp (op2_ok S e1 (pe_lb S hN h.1) (pe_ie S hN t eb h.2) (fun σ H Q Q' hq ⟨v, a, b⟩ => ⟨v, a, hq _ _ b⟩) mono_tIE) fun σ H Q ⟨n, e2, q⟩ => ?_
      simp only [ieV] at e2
      split at e2
      · rename_i ns i g1 g2
        obtain ⟨a, vs, f1, f2, f3⟩ := lbN_ex g1
        refine ⟨_, f1, trivial, i, g2, fun H1 s1 => ⟨noG, fun _ => False, .list (ns.map .int), .int i, .int n, fun _ z => z.elim, ⟨a, vs, rfl, .inl ⟨.inl (s1 _ _ f2), fun z => z⟩, intsV_reps f3⟩, .int i, ?_, fun v' H' s r => ?_⟩⟩
        · show atI (ns.map PyData.int) i = some (.int n)
          unfold atI at e2 ⊢
          rw [List.length_map]
          cases q : ixN ns.length i with
          | none => rw [q] at e2; cases e2
          | some j => rw [q] at e2; simp only [Option.bind_some] at e2 ⊢; rw [List.getElem?_map, e2]; rfl
        · cases r
          exact q H' (s1.trans s)
      · cases e2
    · cases h
  | .op o t u, e, h => by
    simp only [chkIE, Bool.and_eq_true] at h
    obtain ⟨h0, h⟩ := h
    split at h
    · rename_i ea eb e1
      simp only [Bool.and_eq_true] at h
      refine PE.imp (op2_ok S e1 (pe_ie S hN t ea h.1) (pe_ie S hN u eb h.2) mono_tIE mono_tIE) fun σ H Q ⟨n, e2, q⟩ => ?_
      simp only [ieV] at e2
      split at e2
      · rename_i i j g1 g2
        split at e2
        · rename_i r g3
          cases e2
          refine ⟨i, g1, fun H1 s1 => ⟨?_, j, ieV_same s1 g2, fun H2 s2 => ⟨noG, fun _ => False, .int i, .int j, .int n, fun _ z => z.elim, .int i, .int j, g3, fun v' H' s r => ?_⟩⟩⟩
          · cases o <;> first | trivial | (simp [arith] at h0)
          · cases r
            exact q H' (s1.trans (s2.trans s))
        · cases e2
      · cases e2
    · cases h
/-- a comparison of two -/
def tICmp (o : Op2) (t u : IE) : TT := fun σ H Q => ∃ i j b, ieV σ H t = some i ∧ ieV σ H u = some j ∧ sem2 o (.int i) (.int j) = some (.bool b) ∧ ∀ H', Same H H' → Q b H'
theorem pt_ie (S : Site X sc) (hN : X.N = N) {t u : IE} {o : Op2} {op : CmpOp} {ea eb : Expr} {p : Pos} (ho : cmpOf o = some op) (hn : notSet eb = true) (h1 : chkIE N sc t ea = true) (h2 : chkIE N sc u eb = true) :
    PT X (.Compare ea [op] [eb] p) (tICmp o t u) := by
  refine PT.imp (pt_cmpR (cmp_ok S ho) (pe_ie S hN t ea h1) (pe_ie S hN u eb h2) (marks_ok hn)) fun σ H Q ⟨i, j, b, e1, e2, e3, q⟩ => ?_
  refine ⟨i, e1, fun H1 s1 => ⟨j, ieV_same s1 e2, fun H2 s2 => ⟨noG, fun _ => False, .int i, .int j, .bool b, fun _ z => z.elim, .int i, .int j, e3, fun v' H' s r => ?_⟩⟩⟩
  cases r
  exact ⟨b, rfl, q H' (s1.trans (s2.trans s))⟩
end
end Tk
/-! G1: helpers for hand parts. -/
namespace Tk
open PySem PySem.Spec PyProof.Rows L2
section
variable {P : Program} {w : World} {K : KW} {mg : Str → Option Value} {base : Heap} {xr : XRep} {F : FT} {C : Cfg}
theorem site_of {N : List Str} {qual : Str} {scope : Scope} {f : Addr} {cdv : Value} {A : Around} {outer : List Env} {s : Shared} {H : Hp} {E : XK} {k : Nat} (hr : Room k (A.deeper (envOfC qual scope s.heap.objs.size f cdv))) (hg : A.guards = some []) (blt : ∀ x ∈ bltNames, mg x = none) :
    Site (cxOf (L2.CX P w) P w K mg base N qual scope f cdv A outer s H E) scope := by
  have := hr.un
  refine ⟨rfl, rfl, ?_, hg, blt⟩
  show (A.deeper _).units + 200 < cLine
  omega
theorem hereS_of {n : Nat} {N ps : List Str} {qual : Str} {scope : Scope} {f : Addr} {cdv : Value} {A : Around} {outer : List Env} {s : Shared} {H : Hp} {E : XK} (S : FnScope N ps scope) (hr : Room n (A.deeper (envOfC qual scope s.heap.objs.size f cdv))) (hg : A.guards = some []) (blt : ∀ x ∈ bltNames, mg x = none)
    (st : Stat (cxOf (L2.CX P w) P w K mg base N qual scope f cdv A outer s H E) F C xr n) :
    HereS (cxOf (L2.CX P w) P w K mg base N qual scope f cdv A outer s H E) F N scope (fun _ => true) C xr n (fun cls dd _ H' => E cls dd H') :=
  ⟨⟨site_of hr hg blt, st, hr, rfl, S.nd, takes_of rfl rfl rfl rfl⟩, rfl, passes_of rfl⟩
def noF : FT := fun _ => none
def noC : Cfg := ⟨fun _ _ _ _ => False, fun _ => none⟩
def noX : XRep := fun _ _ _ _ _ => False
theorem noStat {X : Cx} : Stat X noF noC noX 0 := ⟨fun x d h => (nomatch (show (none : Option D) = some d from h)), fun x es h => (nomatch (show (none : Option D) = some (.dict es) from h)), fun _ _ _ _ _ _ _ h => h.elim, fun f nm np h => (nomatch (show (none : Option (Str × Nat)) = some (nm, np) from h)), fun f nm np h => (nomatch (show (none : Option (Str × Nat)) = some (nm, np) from h))⟩
theorem noG_ok : noG.Ok := ⟨.inl rfl, fun _ z => z.elim, fun _ z => z.elim, fun _ _ _ z => z.elim, fun _ _ _ _ => trivial, fun _ _ _ _ _ z => z.elim, fun _ _ _ z => z.elim⟩
theorem later_noG {H H' : Hp} {H0 : Hp} {O0 : Addr → Prop} (l : Later { noG with H0 := H0, O0 := O0 } H H') : Same H H' := fun b u e => l.same b u e fun z => z
theorem reps_ints {H : Hp} {O : Addr → Prop} : ∀ {ns : List Int} {vs : List V}, Reps K H O vs (ns.map PyData.int) → vs = ns.map V.int
  | [], _, h => by cases h; rfl
  | n :: ns, _, h => by
    cases h with
    | cons h1 h2 => cases h1; rw [reps_ints h2]; rfl
theorem fmod_r {i j : Int} (h : 0 < j) : 0 ≤ i.fmod j ∧ i.fmod j < j := ⟨Int.fmod_nonneg_of_pos i h, Int.fmod_lt_of_pos i h⟩
theorem at_in {ns : List Int} (h : ns ≠ []) (k : Int) : ∃ n j, atI ns (k.fmod ns.length) = some n ∧ ixN ns.length (k.fmod ns.length) = some j := by
  have hl : 0 < ns.length := List.length_pos_iff.mpr h
  have h := fmod_r (i := k) (j := (ns.length : Nat)) (by omega)
  have e : ixN ns.length (k.fmod ns.length) = some (k.fmod ns.length).toNat := by
    unfold ixN
    rw [if_pos h.1, if_pos h.2]
  have hj : (k.fmod ns.length).toNat < ns.length := by omega
  exact ⟨ns[(k.fmod ns.length).toNat], _, by unfold atI; rw [e]; simp [hj], e⟩
theorem map_set (ns : List Int) (j : Nat) (c : Int) : (ns.map V.int).set j (.int c) = (ns.set j c).map V.int := by
  rw [List.map_set]
theorem shapedI (ns : List Int) : SeqAt.shaped (.list (ns.map PyData.int)) = true := by
  have h1 : PyData.canLayAll0 (ns.map PyData.int) = true := by
    induction ns with
    | nil => rfl
    | cons n ns ih => simp [PyData.canLayAll0, PyData.canLay0, ih]
  have h2 : PyData.depthAll (ns.map PyData.int) ≤ 1 := by
    induction ns with
    | nil => simp [PyData.depthAll]
    | cons n ns ih => 
      simp only [List.map_cons, PyData.depthAll, PyData.depth]
      have := ih (by simpa [PyData.canLayAll0, PyData.canLay0] using h1)
      omega
  have h3 : PyData.depth (.list (ns.map PyData.int)) ≤ 64 := by
    simp only [PyData.depth]; omega
  simp [SeqAt.shaped, PyData.canLay0, h1, h3]
theorem eqvNil (ns : List Int) : PyData.eqv (.list (ns.map PyData.int)) (.list []) = ns.isEmpty := by
  cases ns <;> simp [PyData.eqv, PyData.eqvAll]
theorem ie_op {σ : L2.St} {H : Hp} {o : Op2} {a b : IE} {i j r : Int} (h1 : ieV σ H a = some i) (h2 : ieV σ H b = some j) (h3 : sem2 o (.int i) (.int j) = some (.int r)) : ieV σ H (.op o a b) = some r := by
  simp only [ieV, h1, h2, h3]
theorem s_add (i j : Int) : sem2 .add (.int i) (.int j) = some (.int (i + j)) := rfl
theorem s_mod {i j : Int} (h : j ≠ 0) : sem2 .mod (.int i) (.int j) = some (.int (i.fmod j)) := by simp only [sem2, if_pos h]
theorem s_fdiv {i j : Int} (h : 0 < j) (h2 : j < 1073741824) : sem2 .fdiv (.int i) (.int j) = some (.int (i.fdiv j)) := by simp only [sem2]; rw [if_pos (by omega)]
theorem s_mulL {i j : Int} (h : -(2 ^ 64) < i ∧ i < 2 ^ 64) : sem2 .mul (.int i) (.int j) = some (.int (i * j)) := by simp only [sem2]; rw [if_pos (.inl (.inl h))]
theorem s_mulR {i j : Int} (h : -(2 ^ 64) < j ∧ j < 2 ^ 64) : sem2 .mul (.int i) (.int j) = some (.int (i * j)) := by simp only [sem2]; rw [if_pos (.inl (.inr h))]
theorem shapedS {x : Str} (h : PyData.strOk x = true) : SeqAt.shaped (.str x) = true := by
  simp [SeqAt.shaped, PyData.canLay0, h, PyData.depth]
theorem allShapedS {ws : List Str} (h : ∀ x ∈ ws, PyData.strOk x = true) : allShaped (ws.map PyData.str) = true := by
  simp only [allShaped, List.all_map, List.all_eq_true]
  exact fun x hx => shapedS (h x hx)
theorem reps_strs {H : Hp} {O : Addr → Prop} : ∀ {ws : List Str}, (∀ x ∈ ws, x.length ≤ sizeLine) → Reps K H O (ws.map V.str) (ws.map PyData.str)
  | [], _ => .nil
  | x :: ws, h => .cons (.str x (h x (by simp))) (reps_strs fun y hy => h y (by simp [hy]))
end
end Tk
/-! G2: statements by hand among those of the core. -/
namespace Tk
open PySem PySem.Spec PyProof.Rows L2
/-- a statement that means S -/
def tG (K : KW) (xr : XRep) (W : WX) (S : Dl → En → Prop) : TS := fun B σ H => ∃ Γ δ O E, Fr K Γ δ σ H O ∧ S δ E ∧ EnOk K xr W Γ H O B E
def seqG (S1 S2 : Dl → En → Prop) : Dl → En → Prop := fun δ E => S1 δ { E with nx := fun δ' => S2 δ' E }
def forG (C : Cfg) (t : Tg) (it : CE) (S : Dl → En → Prop) : Dl → En → Prop := fun δ E => evI C false it δ (fun xs => loopS (fun y δ' E' => bindT t y δ' fun δ1 => S δ1 E') xs δ E) fun x => E.xc x δ
section
variable {X : Cx} {F : FT} {N : List Str} {sc : Scope} {fn : Str → Bool} {C : Cfg} {xr : XRep} {n : Nat} {W : WX}
theorem gS (h : HereS X F N sc fn C xr n W) (c : CS) (st : Stmt) (hc : chkS F N sc fn c st = true) : PS X st (tG (kwOf X) xr W (ex C c)) := sS h c st hc
theorem gSs (h : HereS X F N sc fn C xr n W) (c : CS) (sts : List Stmt) (hc : chkSs F N sc fn c sts = true) : PSs X sts (tG (kwOf X) xr W (ex C c)) := sSs h c sts hc
theorem gCons {st : Stmt} {sts : List Stmt} {S1 S2 : Dl → En → Prop} (h1 : PS X st (tG (kwOf X) xr W S1)) (h2 : PSs X sts (tG (kwOf X) xr W S2)) : PSs X (st :: sts) (tG (kwOf X) xr W (seqG S1 S2)) := by
  refine PSs.imp (pss_cons h1 h2) fun B σ H ⟨Γ, δ, O, E, fr, hev, en⟩ => ?_
  exact ⟨Γ, δ, O, _, fr, hev, ⟨fun δ' σ' H' O' hk f' x' => ⟨Γ, δ', O', E, f', hk, en.ext x'⟩, en.rt, en.bk, en.ct, en.xc⟩⟩
theorem gOne {st : Stmt} {S1 : Dl → En → Prop} (h1 : PS X st (tG (kwOf X) xr W S1)) : PSs X [st] (tG (kwOf X) xr W S1) := pss_one h1
theorem gFor (h : HereS X F N sc fn C xr n W) {t : Tg} {it : CE} {tg ie : Expr} {body : List Stmt} {p : Pos} {S : Dl → En → Prop} (h2 : notSet ie = true) (h3 : chkI F N it sc tg ie = true) (h4 : chkT N sc fn t tg = true) (hb : PSs X body (tG (kwOf X) xr W S)) :
    PS X (.For tg ie body [] p) (tG (kwOf X) xr W (forG C t it S)) := by
  have hh := h.toHere
  refine PS.imp (ps_for (pos := p) h.po hh.site.calm (sI hh false it tg ie h3) (sTg hh.hN hh.nd hh.site.sc h.fn hh.site.calm t tg h4) hb (fun y => by cases ie <;> first | rfl | (simp [notSet] at h2))) fun B σ H ⟨Γ, δ, O, E, fr, hev, en⟩ => ?_
  refine ⟨Γ, δ, O, _, _, fr, hev, fun xs J H1 hk l wk => ?_, en.x fr⟩
  obtain ⟨G, Y, w, hw⟩ := wk
  have f1 := fr.later l
  refine for_it w (fun i σ' H' => ∃ δ' O', Fr (kwOf X) Γ δ' σ' H' O' ∧ loopS (fun y δ' E' => bindT t y δ' fun δ1 => S δ1 E') (xs.drop i) δ' E ∧ Ext H1 H' O O') ⟨δ, O, f1, hk, .refl⟩ ?_ ?_ ?_
  · rintro i σ' H' _ ⟨δ', O', f', _, x'⟩
    exact (hw H' O' x' (fun z => by cases z) f'.otr).1
  · rintro i y σ' H' H2 hi ⟨δ', O', f', hl, x'⟩ hy
    obtain ⟨s2, d, ed, rd⟩ := (hw H' O' x' (fun z => by cases z) f'.otr).2 i y H2 hi hy
    have hdrop : xs.drop i = d :: xs.drop (i + 1) := by
      obtain ⟨h', e'⟩ := List.getElem?_eq_some_iff.mp ed
      rw [List.drop_eq_getElem_cons h', e']
    rw [hdrop] at hl
    simp only [loopS] at hl
    have l2 : Later Γ H' H2 := Later.of_same f'.gh f'.w s2
    have f2 := f'.later l2
    have x2 : Ext H1 H2 O O' := x'.trans (f'.ext l2)
    refine ⟨Γ, δ', O', d, _, f2, hl, TRep.ofW rd (plain_tup h3 h4), fun δ3 σ3 hk3 f3 _ => ⟨Γ, δ3, O', _, f3, hk3, ?_⟩⟩
    refine ⟨fun δ4 σ4 H4 O4 hk4 f4 x4 => ⟨δ4, O4, f4, hk4, x2.trans x4⟩, en.rt, fun δ4 σ4 H4 O4 hk4 f4 x4 => en.nx δ4 σ4 H4 O4 hk4 f4 ((fr.ext l).trans (x2.trans x4)), fun δ4 σ4 H4 O4 hk4 f4 x4 => ⟨δ4, O4, f4, hk4, x2.trans x4⟩, en.xc⟩
  · rintro σ' H' ⟨δ', O', f', hl, x'⟩
    have : xs.drop xs.length = [] := by simp
    rw [this] at hl
    simp only [loopS] at hl
    exact en.nx δ' σ' H' O' hl f' ((fr.ext l).trans x')
/-- a call of a def whose promise is sp -/
theorem pe_callG {a : Addr} {fd : FuncData} {ps : List Str} {sp : Sp} {x : Str} {e : Expr} {es : List Expr} {t : TA} {p pos : Pos} (h : Here X F N sc C xr n W) (m1 : X.mg x = some (.ref a)) (m2 : PySem.W.keepIn (kwOf X) (.ref a) = true) (m4 : Binds (kwOf X) fd ps [])
    (m5 : FnG X.prog X.w (kwOf X) X.mg X.base n a fd ps sp) (hg : gl sc x = true) (hp : plainName x = true) (hs : notStars (e :: es) = true) (ha : PA X (e :: es) t) :
    PE X (.Call (.Name x p) (e :: es) [] pos) (fun σ H Q => t σ H fun vs H1 => sp vs H1 Q fun cls dd H' => W cls dd σ H') := by
  have hdb : (x == ("__debug__" : Str)) = false := by
    simp only [plainName, Bool.and_eq_true, Bool.not_eq_true'] at hp
    exact hp.1
  refine ⟨fun pins s σ H Q I q => ?_⟩
  refine wpAny_Call_Name_kw (ld_glob I (h.site.gl hg) m1 ?_ hdb)
  simp only [notStars, List.all_cons, Bool.and_eq_true] at hs
  refine PySem.W.callWith_K (h₀ := X.base) I.ok.mod.kin m2 (thn (ha.run pos pins s σ H _ I q) fun us s1 ⟨vs, H1, I1, r, q⟩ => ⟨I1.kIn, ?_⟩) (star_cons hs.1) (stars_any hs.2)
  exact run_fnG m5 h.room h.site.guards m4 h.tk I1 r q
end
/-- a slot of which nothing is known from now on -/
theorem Fr.forget {K : KW} {Γ : Gh} {δ : Dl} {σ : L2.St} {H : Hp} {O : Addr → Prop} (f : Fr K Γ δ σ H O) (i : Nat) (v : Option V) : Fr K Γ (δ.set i none) (σ.set i v) H O where
  gh := f.gh
  len := by simp [f.len]
  same := f.same
  sub := f.sub
  otr := f.otr
  w := f.w
  slot := fun j s h => by
    by_cases e : i = j
    · subst e
      rw [List.getElem?_set] at h
      simp only [if_true] at h
      split at h <;> cases h
    · rw [List.getElem?_set_ne e] at h ⊢
      exact f.slot j s h
  dist := fun j k a ds es h1 h2 h3 h4 => by
    have g : ∀ {m : Nat} {es : List D}, (δ.set i none)[m]? = some (some (.own es)) → i ≠ m := fun {m es} h e => by
      subst e
      rw [List.getElem?_set] at h
      simp only [if_true] at h
      split at h <;> cases h
    have g1 := g h1
    have g2 := g h2
    rw [List.getElem?_set_ne g1] at h1 h3
    rw [List.getElem?_set_ne g2] at h2 h4
    exact f.dist j k a ds es h1 h2 h3 h4
structure ShowOk (d : D) : Prop where
  sh : d.showable = true
  di : d.hasDict = false
  de : d.depth ≤ 100
  le : d.shown.length ≤ sizeLine
theorem ShowOk.sem {d : D} (h : ShowOk d) : sem1 .repr d = some (.str d.shown) := by
  simp only [sem1]
  rw [if_pos ⟨h.sh, h.di, h.de, h.le⟩]
end Tk
/-! G3: the end: a law's promise (where no repr is under way) at the heap behind the top. After the library's law_call, walk_ofE. -/
namespace Tk
open PySem PySem.Spec PyProof.Rows L2
theorem law_callG {P : Program} {w : World} {K : PySem.W.Frag} {mg mb : Str → Option Value} {k : Nat} {fa a : Addr} {fd : FuncData} {x : Str} {sp : Sp} {s₁ : Shared} {vs : List Value} {ns : List Int}
    (KX : K.In s₁.heap) (hns : s₁.heap.Ns mainGlobals mg) (hb : s₁.heap.Ns builtinsNs mb) (hbb : ∀ x : Str, x ≠ "__name__" → mb x = bootBuiltins x) (hlim : s₁.heap.NoLimit) (hg : s₁.gens = #[])
    (ha : s₁.heap.get? a = some { cls := .type "list", data := .seq vs.toArray }) (hi : IntsAre vs ns) (hl : ns.length ≤ sizeLine) (hr : Room k callerA)
    (F : ∀ base : Heap, FnG P w (kk K P w) mg base k fa fd [x] sp) (hbind : ∀ (s : Shared) (u : Value), BindsTo s fd ⟨[u], []⟩ [(x, u)])
    (hsp : ∀ H : Hp, Only H → SqL K H a (ns.map V.int) → sp [.ref a] H (fun v _ => v = .bl true) fun _ _ _ => False)
    (hCX : ∀ H e s', L2.CX P w [] H s₁ (fun _ _ _ => False) e s' → False) :
    codeAny (model P w) callerA (.call (.ref fa) ⟨[.ref a], []⟩) (fun r s' => r = .ok (.ret (.bool true)) ∧ OldK s₁.heap s'.heap ∧ s'.os = s₁.os ∧ AllBare s'.gens) s₁ := by
  have rv := vals_ints hi
  have core : ∀ H : Hp, Only H → SqL K H a (ns.map V.int) → HOk P w H s₁.heap → (∀ b, H b ≠ none → b = a) → (H a ≠ none → K.lookup a = none) →
      codeAny (model P w) callerA (.call (.ref fa) ⟨[.ref a], []⟩) (fun r s' => r = .ok (.ret (.bool true)) ∧ OldK s₁.heap s'.heap ∧ s'.os = s₁.os ∧ AllBare s'.gens) s₁ := by
    intro H hO hS hok hA hK
    have at_a : ∀ {b : Addr} {u : HO}, H b = some u → b = a := fun {b u} q => hA b (by rw [q]; simp)
    have nsK : ∀ {b : Addr} {m : Str → Option Value}, s₁.heap.Ns b m → (hidT s₁.heap H).Ns b m := by
      rintro b m ⟨o, es, ep, e, d, r⟩
      refine ⟨o, es, ep, hidT_get e ?_, d, r⟩
      cases q : H b with
      | none => rfl
      | some u =>
        obtain rfl := at_a q
        rw [ha] at e; cases e
        have d' : Data.seq vs.toArray _ = Data.dict es ep := d
        cases d'
    have hKb : K.In (hidT s₁.heap H) := fun b o e => hidT_get (KX b o e) (by
      cases q : H b with
      | none => rfl
      | some u =>
        obtain rfl := at_a q
        rw [hK (by rw [q]; simp)] at e; cases e)
    obtain ⟨mc, c1, c2⟩ := hlim
    have e0 : Env0 P w K mg (hidT s₁.heap H) callerA [] s₁ H := ⟨rfl, ⟨hKb, nsK hns, ⟨mb, nsK hb, hbb⟩, mc, nsK c1, c2⟩, fun b o e => of_hidT e, Nat.le_of_eq (hidT_size _ _), trivial, fun b hb => absurd (show b ∈ ([] : List Addr) from hb) (by simp), hok, .of_eq hg⟩
    refine codeAny_mono ((F _).run callerA [] s₁ H ⟨[.ref a], []⟩ [.ref a] [.ref a] _ _ hr rfl e0 (hbind s₁ (.ref a)) (.cons rfl .nil) (hsp H hO hS)) fun r s' h => ?_
    cases r with
    | error e => exact (hCX H e s' h).elim
    | ok fl =>
      cases fl with
      | ret u =>
        obtain ⟨v, H', os, bare, un, hok', r', q⟩ := h
        have q' : v = .bl true := q
        subst q'
        obtain rfl : u = Value.bool true := r'
        refine ⟨rfl, OldK.of_keep fun b o e => ?_, os, bare⟩
        rcases hO b with z | ⟨ob, xs, z⟩
        · exact un.keep b o e z (fun z => absurd (show b ∈ ([] : List Addr) from z) (by simp)) (by simp)
        · obtain ⟨e1, _⟩ := hok b _ z
          obtain ⟨e2, _⟩ := hok' b _ (un.frzs b ob _ z)
          rw [e] at e1; cases e1
          exact e2
      | _ => exact False.elim h
  cases hk : K.lookup a with
  | some o =>
    have e := KX a o hk
    rw [ha] at e
    cases e
    exact core (fun _ => none) (fun _ => .inl rfl) (.inr ⟨_, vs.toArray, _, hk, rfl, rfl, rfl, by rw [List.size_toArray, hi.length]; exact hl, by simpa using rv⟩) (fun b u z => (nomatch (show (none : Option HO) = some u from z))) (fun b z => absurd rfl z) fun z => absurd rfl z
  | none =>
    refine core (upd (fun _ => none) a (.frz { cls := .type "list", data := .seq vs.toArray } (.lst (ns.map V.int)))) (fun b => ?_) (.inl (.inr ⟨_, upd_same⟩)) (fun b u z => ?_) (fun b z => ?_) fun _ => hk
    · by_cases hb : b = a
      · rw [hb]; exact .inr ⟨_, _, upd_same⟩
      · exact .inl (upd_ne hb)
    · by_cases hb : b = a
      · subst hb
        rw [upd_same] at z
        cases z
        exact ⟨ha, by rw [List.length_map]; exact hl, vs, _, rv, ha⟩
      · rw [upd_ne hb] at z; cases z
    · by_cases hb : b = a
      · exact hb
      · exact absurd (upd_ne hb) z
theorem walk_ofG {l : PySem.W.OpenLaw} {n k : Nat} {q : Program} {loose : List Str} {XP : (Str → Option Value) → Heap → Prop} {YP : World → Heap → Prop} {d : DefRec} {x : Str}
    (hn : l.most = some n) (hn2 : n ≤ sizeLine) (hdf : d.params.defaults = []) (hr : Room k callerA)
    (F : ∀ (w : World) (mg : Str → Option Value) (fa : Addr) (h : Heap), YP w h → h.Ns mainGlobals mg → mg d.name = some (.ref fa) →
      ∃ (K : PySem.W.Frag) (fd : FuncData) (sp : Sp), K.In h ∧ (∀ (s : Shared) (u : Value), BindsTo s fd ⟨[u], []⟩ [(x, u)]) ∧
        (∀ (H : Hp) (a : Addr) (ns : List Int), ns.length ≤ n → Only H → SqL K H a (ns.map V.int) → sp [.ref a] H (fun v _ => v = .bl true) fun _ _ _ => False) ∧
        ∀ base : Heap, FnG l.prog w (kk K l.prog w) mg base k fa fd [x] sp) :
    PySem.W.WalkO q loose XP YP l.row.toRowW d [] (fun f vs => PySem.call f vs) := by
  refine Att.attach_call hn hdf fun w s₀ s₁ mg mb fa o pm cd doc a vs ns G Y ho hd hcd hmg hobj hints hlen hg => ?_
  obtain ⟨K, fd, sp, KX, hb, hsp, hF⟩ := F w mg fa _ Y G.T.g hmg
  exact law_callG KX G.T.g G.T.b G.T.builtins G.T.nolimit hg hobj hints (Nat.le_trans hlen hn2) hr hF hb (fun H hO hS => hsp H a ns hlen hO hS) fun H e s' ⟨_, _, _, _, _, _, _, _, _, _, _, _, z⟩ => z
end Tk
/-! P0: helpers for plain laws: loops, comprehensions, what may be shown. -/
namespace Tk
open PySem PySem.Spec PyProof.Rows L2
theorem ite2 {c : Prop} [Decidable c] {p q : Prop} (h1 : c → p) (h2 : ¬ c → q) : if c then p else q := by
  by_cases h : c
  · rw [if_pos h]; exact h1 h
  · rw [if_neg h]; exact h2 h
/-- a comprehension by a function -/
theorem loop_fm {bd : D → List D → (List D → Prop) → Prop} (g : D → Option D) : ∀ (xs acc : List D) (k : List D → Prop), acc.length + xs.length ≤ sizeLine →
    (∀ y ∈ xs, ∀ (acc : List D) (k' : List D → Prop), acc.length < sizeLine → (∀ d, g y = some d → k' (acc ++ [d])) → (g y = none → k' acc) → bd y acc k') → k (acc ++ xs.filterMap g) → loopC bd xs acc k
  | [], acc, k, _, _, hk => by simpa [loopC] using hk
  | y :: xs, acc, k, hl, h, hk => by
    simp only [List.length_cons] at hl
    simp only [loopC]
    refine h y (by simp) acc _ (by omega) (fun d e => ?_) fun e => ?_
    · refine loop_fm g xs _ k (by simp; omega) (fun z hz => h z (by simp [hz])) ?_
      rw [List.filterMap_cons, e] at hk
      simpa using hk
    · refine loop_fm g xs _ k (by omega) (fun z hz => h z (by simp [hz])) ?_
      rw [List.filterMap_cons, e] at hk
      exact hk
/-- a comprehension of drawn things -/
theorem loop_nd {bd : D → List D → (List D → Prop) → Prop} (P : D → Prop) : ∀ (xs acc : List D) (k : List D → Prop), acc.length + xs.length ≤ sizeLine →
    (∀ y ∈ xs, ∀ (acc : List D) (k' : List D → Prop), acc.length < sizeLine → (∀ d, P d → k' (acc ++ [d])) → bd y acc k') → (∀ ds, ds.length = xs.length → (∀ d ∈ ds, P d) → k (acc ++ ds)) → loopC bd xs acc k
  | [], acc, k, _, _, hk => by simpa [loopC] using hk [] rfl (by simp)
  | y :: xs, acc, k, hl, h, hk => by
    simp only [List.length_cons] at hl
    simp only [loopC]
    refine h y (by simp) acc _ (by omega) fun d e => ?_
    refine loop_nd P xs _ k (by simp; omega) (fun z hz => h z (by simp [hz])) fun ds hd hp => ?_
    have := hk (d :: ds) (by simp [hd]) (fun z hz => (List.mem_cons.mp hz).elim (fun q => q ▸ e) (hp z))
    simpa using this
/-- a loop by an invariant -/
theorem loopS_inv {bd : D → Dl → En → Prop} {E : En} (I : List D → Dl → Prop) : ∀ (xs : List D) (δ : Dl), I xs δ →
    (∀ y ys δ, I (y :: ys) δ → y ∈ xs → ∀ E' : En, (∀ δ', I ys δ' → E'.nx δ') → (∀ δ', I ys δ' → E'.ct δ') → E'.rt = E.rt → E'.bk = E.nx → E'.xc = E.xc → bd y δ E') → (∀ δ, I [] δ → E.nx δ) → loopS bd xs δ E
  | [], δ, h0, _, he => he δ h0
  | y :: xs, δ, h0, hs, he => by
    simp only [loopS]
    refine hs y xs δ h0 (by simp) _ (fun δ' h' => ?_) (fun δ' h' => ?_) rfl rfl rfl
    · exact loopS_inv I xs δ' h' (fun z zs δ hz hm => hs z zs δ hz (by simp [hm])) he
    · exact loopS_inv I xs δ' h' (fun z zs δ hz hm => hs z zs δ hz (by simp [hm])) he
theorem intsD_map (is : List Int) : intsD (is.map .int) = some is := by
  induction is with
  | nil => rfl
  | cons y ys ih => simp [intsD, ih]
theorem boolsD_map (is : List Bool) : boolsD (is.map .bool) = some is := by
  induction is with
  | nil => rfl
  | cons y ys ih => simp [boolsD, ih]
theorem strsD_map (ys : List Str) : strsD (ys.map .str) = some ys := by
  induction ys with
  | nil => rfl
  | cons y ys ih => simp [strsD, ih]
theorem show_of {d : D} (h1 : d.canLay0 = true) (h2 : d.depth ≤ 64) (h3 : d.weight ≤ 2 ^ 20) (h4 : d.intsShort 13 = true) (h5 : d.showable = true) : ShowOk d := by
  have lay : PyData.layable0 d = true := by
    unfold PyData.layable0
    rw [h1, decide_eq_true h2, decide_eq_true h3]; rfl
  refine ⟨h5, PyData.hasDict_of_canLay d h1, by omega, ?_⟩
  have := shown_le13 lay h4
  rw [sizeLine_eq]; omega
theorem small_int : ∀ i : Nat, i < 1024 → PyData.intsShort 13 (.int (i : Nat)) = true ∧ PyData.showable (.int (i : Nat)) = true ∧ PyData.weight (.int (i : Nat)) ≤ 11 := by decide +kernel
theorem show_two {a b : Nat} (ha : a < 1024) (hb : b < 1024) : ShowOk (.tuple [.int (a : Nat), .int (b : Nat)]) := by
  obtain ⟨a1, a2, a3⟩ := small_int a ha
  obtain ⟨b1, b2, b3⟩ := small_int b hb
  refine show_of (by simp [PyData.canLay0, PyData.canLayAll0]) (by simp [PyData.depth, PyData.depthAll]) ?_ ?_ ?_
  · simp only [PyData.weight, PyData.weightAll] at a3 b3 ⊢
    have : (2 : Nat) ^ 20 = 1048576 := by decide
    omega
  · simp only [PyData.intsShort, PyData.intsShortAll, Bool.and_true, Bool.and_eq_true] at a1 b1 ⊢
    exact ⟨a1, b1⟩
  · simp only [PyData.showable, PyData.showableAll, Bool.and_true, Bool.and_eq_true] at a2 b2 ⊢
    exact ⟨a2, b2⟩
theorem sort_mem {xs : List D} {x : D} : x ∈ sortD xs ↔ x ∈ xs := (List.mergeSort_perm xs _).mem_iff
theorem sort_len {xs : List D} : (sortD xs).length = xs.length := (List.mergeSort_perm xs _).length_eq
theorem range_len (n : Nat) : (rangeD 0 (n : Nat)).length = n := by simp [rangeD]
theorem at_nat {α : Type} {xs : List α} {i : Int} (h0 : 0 ≤ i) (h1 : i < xs.length) : ∃ d, atI xs i = some d ∧ d ∈ xs := by
  have e : ixN xs.length i = some i.toNat := by
    unfold ixN
    rw [if_pos h0, if_pos h1]
  have hj : i.toNat < xs.length := by omega
  exact ⟨xs[i.toNat], by unfold atI; rw [e]; simp [hj], by simp⟩
theorem ex_seq {C : Cfg} {a b : CS} {δ : Dl} {E : En} (h : ∀ E' : En, E'.rt = E.rt → E'.bk = E.bk → E'.ct = E.ct → E'.xc = E.xc → (∀ δ', ex C b δ' E → E'.nx δ') → ex C a δ E') : ex C (.seq a b) δ E :=
  h { E with nx := fun δ' => ex C b δ' E } rfl rfl rfl rfl fun _ h => h
theorem ex_ite {C : Cfg} {c : CE} {a b : CS} {δ : Dl} {E : En} (h : ∀ p : Bool → Prop, (ex C a δ E → p true) → (ex C b δ E → p false) → evT C c δ p (fun x => E.xc x δ)) : ex C (.ite c a b) δ E := by
  simp only [ex]
  exact h (fun z => if z = true then ex C a δ E else ex C b δ E) (fun h => by simpa using h) fun h => by simpa using h
theorem ex_for {C : Cfg} {t : Tg} {it : CE} {b : CS} {δ : Dl} {E : En} (h : ∀ L : List D → Prop, (∀ xs, loopS (fun y δ' E' => bindT t y δ' fun δ1 => ex C b δ1 E') xs δ E → L xs) → evI C false it δ L (fun x => E.xc x δ)) : ex C (.for_ t it b) δ E := by
  simp only [ex]
  exact h _ fun _ h => h
theorem if_ite {p : Bool → Prop} {A B : Prop} {z : Bool} (h1 : A → p true) (h2 : B → p false) (h : if z = true then A else B) : p z := by
  cases z
  · exact h2 (by simpa using h)
  · exact h1 (by simpa using h)
theorem call_code {T : List Ent} {G : Str → Option D} {n f : Nat} {d : Def} {ss : List Slot} {k : Slot → Prop} {x : KX} (e : T[f]? = some (.code d)) (hl : ss.length = d.ps.length) (h : ex ⟨callW T G n, G⟩ d.body (startD d.N.length ss) (enD k x)) : callW T G (n + 1) f ss k x := by
  unfold callW
  rw [e]
  exact ⟨hl, h⟩
/-! the operations, one by one -/
theorem q_addI {i j : Int} : sem2 .add (.int i) (.int j) = some (.int (i + j)) := rfl
theorem q_addS {i j : Str} : sem2 .add (.str i) (.str j) = if i.length + j.length ≤ sizeLine then some (.str (i ++ j)) else none := rfl
theorem q_addL {i j : List D} : sem2 .add (.list i) (.list j) = if i.length + j.length ≤ sizeLine then some (.list (i ++ j)) else none := rfl
theorem q_addT {i j : List D} : sem2 .add (.tuple i) (.tuple j) = if i.length + j.length ≤ sizeLine then some (.tuple (i ++ j)) else none := rfl
theorem q_sub {i j : Int} : sem2 .sub (.int i) (.int j) = some (.int (i - j)) := rfl
theorem q_ltI {i j : Int} : sem2 .lt (.int i) (.int j) = some (.bool (decide (i < j))) := rfl
theorem q_leI {i j : Int} : sem2 .le (.int i) (.int j) = some (.bool (decide (i ≤ j))) := rfl
theorem q_gtI {i j : Int} : sem2 .gt (.int i) (.int j) = some (.bool (decide (j < i))) := rfl
theorem q_geI {i j : Int} : sem2 .ge (.int i) (.int j) = some (.bool (decide (j ≤ i))) := rfl
theorem q_ltS {i j : Str} : sem2 .lt (.str i) (.str j) = some (.bool (ltS i j)) := rfl
theorem q_eqI {i j : Int} : sem2 .eq (.int i) (.int j) = some (.bool (decide (i = j))) := by
  have h : ∀ k : Int, SeqAt.shaped (.int k) = true := fun k => by simp [SeqAt.shaped, PyData.canLay0, PyData.depth]
  simp only [sem2, h, and_self, or_true, if_true, PyData.eqv, Option.some.injEq, PyData.bool.injEq]
  first | rfl | (simp [PyData.eqv]; done) | (exact beq_eq_decide i j)
theorem q_neI {i j : Int} : sem2 .ne (.int i) (.int j) = some (.bool (!decide (i = j))) := by
  have h : ∀ k : Int, SeqAt.shaped (.int k) = true := fun k => by simp [SeqAt.shaped, PyData.canLay0, PyData.depth]
  simp only [sem2, h, and_self, or_true, if_true, PyData.eqv, Option.some.injEq, PyData.bool.injEq]
  first | rfl | (simp [PyData.eqv]; done) | (congr 1; exact beq_eq_decide i j)
theorem q_ixL {xs : List D} {i : Int} : sem2 .ix (.list xs) (.int i) = atI xs i := rfl
theorem q_ixT {xs : List D} {i : Int} : sem2 .ix (.tuple xs) (.int i) = atI xs i := rfl
theorem q_max2 {i j : Int} : sem2 .max2 (.int i) (.int j) = some (.int (if j > i then j else i)) := rfl
theorem q_min2 {i j : Int} : sem2 .min2 (.int i) (.int j) = some (.int (if j < i then j else i)) := rfl
theorem q_lenL {xs : List D} : sem1 .len (.list xs) = some (.int (xs.length : Nat)) := rfl
theorem q_lenT {xs : List D} : sem1 .len (.tuple xs) = some (.int (xs.length : Nat)) := rfl
theorem q_lenS {x : Str} : sem1 .len (.str x) = some (.int (x.length : Nat)) := rfl
theorem q_tupL {xs : List D} : sem1 .tuple (.list xs) = some (.tuple xs) := rfl
theorem q_tupT {xs : List D} : sem1 .tuple (.tuple xs) = some (.tuple xs) := rfl
theorem q_lstT {xs : List D} : sem1 .list (.tuple xs) = some (.list xs) := rfl
theorem q_lstL {xs : List D} : sem1 .list (.list xs) = some (.list xs) := rfl
theorem q_revT {xs : List D} : sem1 .rev (.tuple xs) = some (.tuple xs.reverse) := rfl
theorem q_revL {xs : List D} : sem1 .rev (.list xs) = some (.list xs.reverse) := rfl
theorem q_notV {b : Bool} : sem1 .notV (.bool b) = some (.bool (!b)) := rfl
theorem q_intB {b : Bool} : sem1 .int (.bool b) = some (.int (if b then 1 else 0)) := rfl
theorem q_isN {d : D} : sem1 .isN d = some (.bool (isNoneD d)) := rfl
theorem q_notN {d : D} : sem1 .notN d = some (.bool (!isNoneD d)) := rfl
theorem q_slT {xs : List D} {l h : Option Int} : semSl (.tuple xs) l h = some (.tuple (cutD xs l h)) := rfl
theorem q_slL {xs : List D} {l h : Option Int} : semSl (.list xs) l h = some (.list (cutD xs l h)) := rfl
theorem at_0 {α : Type} {x : α} {xs : List α} : atI (x :: xs) 0 = some x := by
  have e : ixN (x :: xs).length 0 = some 0 := by
    unfold ixN
    rw [if_pos (by decide), if_pos (by simp <;> omega)]; rfl
  unfold atI; rw [e]; rfl
theorem at_1 {α : Type} {x y : α} {xs : List α} : atI (x :: y :: xs) 1 = some y := by
  have e : ixN (x :: y :: xs).length 1 = some 1 := by
    unfold ixN
    rw [if_pos (by decide), if_pos (by simp <;> omega)]; rfl
  unfold atI; rw [e]; rfl
theorem at_2 {α : Type} {x y z : α} {xs : List α} : atI (x :: y :: z :: xs) 2 = some z := by
  have e : ixN (x :: y :: z :: xs).length 2 = some 2 := by
    unfold ixN
    rw [if_pos (by decide), if_pos (by simp <;> omega)]; rfl
  unfold atI; rw [e]; rfl
theorem at_3 {α : Type} {x y z u : α} {xs : List α} : atI (x :: y :: z :: u :: xs) 3 = some u := by
  have e : ixN (x :: y :: z :: u :: xs).length 3 = some 3 := by
    unfold ixN
    rw [if_pos (by decide), if_pos (by simp <;> omega)]; rfl
  unfold atI; rw [e]; rfl
theorem ex_ret {p : D → Prop} {d : D} {o : Option D} (e : o = some d) (h : p d) : ∃ r, o = some r ∧ p r := ⟨d, e, h⟩
end Tk
/-! K1: the table of k02 (printed by gen.py), seen to be as its row is written. -/
namespace Tk
open PySem PySem.Spec PyProof.Rows L2
def top (i : Nat) : Stmt := PySem.Challenge.pw_tiekeep_k02_names_and_numbers.main.body.getD i (.Pass ⟨0, 0, 0, 0⟩)
def i_ (i : Int) : CE := .const (.int i)
def s_ (x : Str) : CE := .const (.str x)
def args : List CE → CE
  | [] => .nil
  | a :: r => .cons a (args r)
def sq : List CS → CS
  | [] => .nop
  | a :: r => .seq a (sq r)
def semDraw (ss : List Slot) (k : Slot → Prop) (_ : KX) : Prop := ∃ many : Int, ss = [.st, .val (.int many)] ∧ 0 < many ∧ many < 1073741824 ∧ ∀ r, 0 ≤ r → r < many → k (.val (.int r))
def gl2 : Str → Option D := fun x => if x = "SMALL" then some (.str "abcdefghijklmnopqrstuvwxyz") else if x = "FIGURES" then some (.str "0123456789") else if x = "LONGEST" then some (.int 8) else if x = "MOST_FIGURES" then some (.int 6) else none
def f_is_whole : Nat := 0
def f_is_of : Nat := 1
def f_is_name : Nat := 2
def f_is_rising : Nat := 3
def f_number_in : Nat := 4
def f__law_begun : Nat := 5
def f__law_draw : Nat := 6
def f__law_signs : Nat := 7
def f__law_any : Nat := 8
def f__law_text : Nat := 9
def f__law_things : Nat := 10
def f__law_is_name : Nat := 11
def f__law_rises : Nat := 12
def f__law_number : Nat := 13
def f__law_whole_right : Nat := 14
def f_law : Nat := 15
def b_is_whole : CS := sq [.ret (.and_ (.op1 (.isi ["int"]) (.var 0)) (.and_ (.not_ (.op1 (.isi ["bool"]) (.var 0))) (.chain .le .le (.var 1) (.var 0) (.var 2))))]
def b_is_of : CS := sq [.ret (.and_ (.op1 (.isi ["str"]) (.var 0)) (.and_ (.chain .le .le (i_ 1) (.op1 .len (.var 0)) (.var 2)) (.op1 .all (.comp [3] (.op2 .inn (.var 3) (.var 1)) (.name 3) (.iter (.var 0)) .nil))))]
def b_is_name : CS := sq [.ret (.call f_is_of (args [(.var 0), (.glob "SMALL"), (.glob "LONGEST")]))]
def b_is_rising : CS := sq [.ite (.or_ (.not_ (.op1 (.isi ["tuple"]) (.var 0))) (.not_ (.op1 .all (.comp [1] (.call f_is_name (args [(.var 1)])) (.name 1) (.iter (.var 0)) .nil)))) (sq [.ret (.const (.bool false))])
    (.nop),
  .ret (.op1 .all (.comp [1, 2] (.op2 .lt (.var 1) (.var 2)) (.tup (.cons (.name 1) (.cons (.name 2) .nil))) (.zip2 (.var 0) (.slc (.var 0) (.cons (i_ 1) .nil) .nopart)) .nil))]
def b_number_in : CS := sq [.ite (.or_ (.not_ (.call f_is_of (args [(.var 0), (.glob "FIGURES"), (.glob "MOST_FIGURES")]))) (.and_ (.op2 .eq (.op2 .ix (.var 0) (i_ 0)) (s_ "0")) (.op2 .ne (.var 0) (s_ "0")))) (sq [.ret (.const .none)])
    (.nop),
  .ret (.op1 .int (.var 0))]
def b__law_signs : CS := sq [.asg (.name 0) (s_ " !\"#$&'()*+,-./0123456789:;<=>?@ABCDEFGHIJKLMNOPQRSTUVWXYZ[\\]^_"),
  .ret (.op2 .add (.var 0) (s_ "`abcdefghijklmnopqrstuvwxyz{|}~\n"))]
def b__law_any : CS := sq [.ret (.op2 .join (s_ "") (.comp [3] (.op2 .ix (.var 1) (.call f__law_draw (args [(.var 0), (.op1 .len (.var 1))]))) (.name 3) (.range1 (.call f__law_draw (args [(.var 0), (.op2 .add (.var 2) (i_ 1))]))) .nil))]
def b__law_text : CS := sq [.par [2, 3, 4, 5] (args [(.call f__law_draw (args [(.var 0), (i_ 6)])), (.call f__law_draw (args [(.var 0), (i_ 10)])), (.call f__law_draw (args [(.var 0), (i_ 2)])), (.call f__law_draw (args [(.var 0), (i_ 95)]))]),
  .par [6, 7] (args [(.call f__law_any (args [(.var 0), (s_ "abcdefghijklmnopqrstuvwxyz"), (i_ 10)])), (.call f__law_any (args [(.var 0), (s_ "0123456789"), (i_ 8)]))]),
  .ite (.op2 .eq (.var 2) (i_ 0)) (sq [.ret (.var 6)])
    (.nop),
  .ite (.op2 .eq (.var 2) (i_ 1)) (sq [.ret (.var 7)])
    (.nop),
  .ite (.op2 .eq (.var 2) (i_ 2)) (sq [.ret (.op2 .ix (.lst (args [(s_ "0"), (s_ "00"), (s_ "-0"), (s_ "-1"), (s_ "+1"), (s_ "01"), (s_ "000001"), (s_ "1000000"), (s_ "999999"), (s_ "")])) (.var 3))])
    (.nop),
  .asg (.name 1) (.ifx (.op2 .lt (.var 2) (i_ 5)) (.var 6) (.var 7)),
  .ret (.op2 .add (.op2 .add (.slc (.var 1) .nopart (.cons (.var 3) .nil)) (.op2 .ix (.call f__law_signs (args [])) (.var 5))) (.slc (.var 1) (.cons (.op2 .add (.var 3) (.var 4)) .nil) .nopart))]
def b__law_things : CS := sq [.asgO 1 (.comp [7] (.op2 .add (.call f__law_any (args [(.var 0), (s_ "abz"), (i_ 3)])) (.op2 .ix (s_ "abcdefgh") (.call f__law_draw (args [(.var 0), (i_ 8)])))) (.name 7) (.range1 (.call f__law_draw (args [(.var 0), (i_ 6)]))) .nil),
  .frz 1,
  .par [5, 6] (args [(.call f__law_draw (args [(.var 0), (i_ 7)])), (.call f__law_draw (args [(.var 0), (i_ 6)]))]),
  .asg (.name 2) (.op1 .sortset (.var 1)),
  .asg (.name 3) (.op2 .ix (.lst (args [(.const .none), (i_ 5), (s_ ""), (s_ "A"), (s_ "abcdefghi"), (.tup (args [(s_ "a")])), (.lst (args [(s_ "a")])), (.const (.bool true))])) (.call f__law_draw (args [(.var 0), (i_ 8)]))),
  .asg (.name 4) (.op2 .ix (.lst (args [(.var 2), (.var 1), (.op1 .rev (.var 2)), (.op2 .add (.var 2) (.slc (.var 2) (.cons (.op1 .neg (i_ 1)) .nil) .nopart)), (.op2 .add (.op2 .add (.op1 .list (.slc (.var 2) .nopart (.cons (.var 6) .nil))) (.lst (args [(.var 3)]))) (.slc (.var 2) (.cons (.var 6) .nil) .nopart)), (.var 2), (.var 2)])) (.var 5)),
  .ret (.tup (args [(.op1 .tuple (.var 4)), (.op1 .list (.var 2)), (.op1 .tuple (.var 2))]))]
def b__law_is_name : CS := sq [.ite (.or_ (.not_ (.op1 (.isi ["str"]) (.var 0))) (.not_ (.chain .lt .lt (i_ 0) (.op1 .len (.var 0)) (i_ 9)))) (sq [.ret (.const (.bool false))])
    (.nop),
  .ret (.op2 .eq (.comp [1] (.var 1) (.name 1) (.iter (.var 0)) (.op2 .nin (.var 1) (s_ "abcdefghijklmnopqrstuvwxyz"))) (.lst (args [])))]
def b__law_rises : CS := sq [.ite (.or_ (.not_ (.op1 (.isi ["tuple"]) (.var 0))) (.op2 .ne (.comp [1] (.var 1) (.name 1) (.iter (.var 0)) (.not_ (.call f__law_is_name (args [(.var 1)])))) (.lst (args [])))) (sq [.ret (.const (.bool false))])
    (.nop),
  .ret (.op2 .eq (.comp [1, 2] (i_ 1) (.tup (.cons (.name 1) (.cons (.name 2) .nil))) (.zip2 (.var 0) (.slc (.var 0) (.cons (i_ 1) .nil) .nopart)) (.not_ (.op2 .lt (.var 1) (.var 2)))) (.lst (args [])))]
def b__law_number : CS := sq [.ite (.or_ (.not_ (.op1 (.isi ["str"]) (.var 0))) (.not_ (.chain .lt .lt (i_ 0) (.op1 .len (.var 0)) (i_ 7)))) (sq [.ret (.const .none)])
    (.nop),
  .asg (.name 1) (i_ 0),
  .for_ (.name 2) (.iter (.var 0)) (sq [.ite (.op2 .nin (.var 2) (s_ "0123456789")) (sq [.ret (.const .none)])
      (.nop),
    .asg (.name 1) (.op2 .add (.op2 .mul (i_ 10) (.var 1)) (.op2 .indexS (s_ "0123456789") (.var 2)))]),
  .ret (.ifx (.op2 .eq (.op1 .str (.var 1)) (.var 0)) (.var 1) (.const .none))]
def b__law_whole_right : CS := sq [.par [3, 4, 5] (args [(.op2 .sub (.call f__law_draw (args [(.var 0), (i_ 2000)])) (i_ 1000)), (.op2 .ix (.lst (args [(i_ 0), (i_ 1), (i_ 9), (.op2 .pow (i_ 10) (i_ 18))])) (.call f__law_draw (args [(.var 0), (i_ 4)]))), (.call f__law_draw (args [(.var 0), (i_ 6)]))]),
  .par [6, 7] (args [(.op2 .add (.var 3) (.op2 .ix (.lst (args [(.op2 .sub (i_ 0) (i_ 1)), (i_ 0), (i_ 1), (.var 4), (.op2 .add (.var 4) (i_ 1)), (.op2 .fdiv (.var 4) (i_ 2))])) (.var 5))), (.op2 .add (.var 3) (.var 4))]),
  .asg (.name 2) (.lst (args [(.call f_is_whole (args [(.var 6), (.var 3), (.var 7)])), (.call f_is_whole (args [(.var 1), (.op2 .sub (i_ 0) (i_ 5)), (i_ 5)])), (.call f_is_whole (args [(.var 6), (.op2 .add (.var 6) (i_ 1)), (.var 6)]))])),
  .ret (.op2 .eq (.op1 .repr (.var 2)) (.op1 .repr (.lst (args [(.chain .le .le (.var 3) (.var 6) (.var 7)), (.const (.bool false)), (.const (.bool false))]))))]
def d_is_whole : Def := ⟨top 5, "is_whole", ["thing", "least", "most"], ["thing", "least", "most"], b_is_whole⟩
def d_is_of : Def := ⟨top 6, "is_of", ["thing", "signs", "most"], ["thing", "signs", "most", "sign"], b_is_of⟩
def d_is_name : Def := ⟨top 7, "is_name", ["thing"], ["thing"], b_is_name⟩
def d_is_rising : Def := ⟨top 8, "is_rising", ["thing"], ["thing", "one", "other"], b_is_rising⟩
def d_number_in : Def := ⟨top 9, "number_in", ["word"], ["word"], b_number_in⟩
def d__law_signs : Def := ⟨top 13, "_law_signs", [], ["_law_some"], b__law_signs⟩
def d__law_any : Def := ⟨top 14, "_law_any", ["_law_m", "_law_signs_here", "_law_top"], ["_law_m", "_law_signs_here", "_law_top", "_law_k"], b__law_any⟩
def d__law_text : Def := ⟨top 15, "_law_text", ["_law_m"], ["_law_m", "_law_spelt", "_law_way", "_law_at", "_law_far", "_law_sign", "_law_small", "_law_figures"], b__law_text⟩
def d__law_things : Def := ⟨top 16, "_law_things", ["_law_m"], ["_law_m", "_law_some", "_law_near", "_law_odd", "_law_bent", "_law_way", "_law_at", "_law_k"], b__law_things⟩
def d__law_is_name : Def := ⟨top 17, "_law_is_name", ["_law_it"], ["_law_it", "_law_sign"], b__law_is_name⟩
def d__law_rises : Def := ⟨top 18, "_law_rises", ["_law_it"], ["_law_it", "_law_one", "_law_other"], b__law_rises⟩
def d__law_number : Def := ⟨top 19, "_law_number", ["_law_it"], ["_law_it", "_law_found", "_law_sign"], b__law_number⟩
def d__law_whole_right : Def := ⟨top 20, "_law_whole_right", ["_law_m", "_law_it"], ["_law_m", "_law_it", "_law_found", "_law_least", "_law_span", "_law_way", "_law_mixed", "_law_top"], b__law_whole_right⟩
def tab : List Ent := [.code d_is_whole, .code d_is_of, .code d_is_name, .code d_is_rising, .code d_number_in, .prim "_law_begun" 1 0 (fun _ _ _ => False), .prim "_law_draw" 2 1 semDraw, .code d__law_signs, .code d__law_any, .code d__law_text, .code d__law_things, .code d__law_is_name, .code d__law_rises, .code d__law_number, .code d__law_whole_right, .prim "law" 1 0 (fun _ _ _ => False)]
theorem ok_is_whole : DOk (tabF tab) d_is_whole := ⟨by decide +kernel, fun _ _ _ _ _ _ us hl => match us, hl with | [_, _, _], _ => rfl, by decide +kernel⟩
theorem ok_is_of : DOk (tabF tab) d_is_of := ⟨by decide +kernel, fun _ _ _ _ _ _ us hl => match us, hl with | [_, _, _], _ => rfl, by decide +kernel⟩
theorem ok_is_name : DOk (tabF tab) d_is_name := ⟨by decide +kernel, fun _ _ _ _ _ _ us hl => match us, hl with | [_], _ => rfl, by decide +kernel⟩
theorem ok_is_rising : DOk (tabF tab) d_is_rising := ⟨by decide +kernel, fun _ _ _ _ _ _ us hl => match us, hl with | [_], _ => rfl, by decide +kernel⟩
theorem ok_number_in : DOk (tabF tab) d_number_in := ⟨by decide +kernel, fun _ _ _ _ _ _ us hl => match us, hl with | [_], _ => rfl, by decide +kernel⟩
theorem ok__law_signs : DOk (tabF tab) d__law_signs := ⟨by decide +kernel, fun _ _ _ _ _ _ us hl => match us, hl with | [], _ => rfl, by decide +kernel⟩
theorem ok__law_any : DOk (tabF tab) d__law_any := ⟨by decide +kernel, fun _ _ _ _ _ _ us hl => match us, hl with | [_, _, _], _ => rfl, by decide +kernel⟩
theorem ok__law_text : DOk (tabF tab) d__law_text := ⟨by decide +kernel, fun _ _ _ _ _ _ us hl => match us, hl with | [_], _ => rfl, by decide +kernel⟩
theorem ok__law_things : DOk (tabF tab) d__law_things := ⟨by decide +kernel, fun _ _ _ _ _ _ us hl => match us, hl with | [_], _ => rfl, by decide +kernel⟩
theorem ok__law_is_name : DOk (tabF tab) d__law_is_name := ⟨by decide +kernel, fun _ _ _ _ _ _ us hl => match us, hl with | [_], _ => rfl, by decide +kernel⟩
theorem ok__law_rises : DOk (tabF tab) d__law_rises := ⟨by decide +kernel, fun _ _ _ _ _ _ us hl => match us, hl with | [_], _ => rfl, by decide +kernel⟩
theorem ok__law_number : DOk (tabF tab) d__law_number := ⟨by decide +kernel, fun _ _ _ _ _ _ us hl => match us, hl with | [_], _ => rfl, by decide +kernel⟩
theorem ok__law_whole_right : DOk (tabF tab) d__law_whole_right := ⟨by decide +kernel, fun _ _ _ _ _ _ us hl => match us, hl with | [_, _], _ => rfl, by decide +kernel⟩
end Tk
/-! K2: the draw of this family: any number below the bound. -/
namespace Tk
open PySem PySem.Spec PyProof.Rows L2
abbrev sBegun : Stmt := top 11
abbrev sDraw : Stmt := top 12
def drawN : List Str := ["_law_m", "_law_many", "_law_k", "_law_at", "_law_cell", "_law_primes", "_law_mixed"]
def drawPs : List Str := ["_law_m", "_law_many"]
section
variable {P : Program} {w : World} {K : PySem.W.Frag} {mg : Str → Option Value} {base : Heap} {xr : XRep}
theorem scDraw : FnScope drawN drawPs (defScope sDraw) := scope_by (by decide +kernel)
theorem stw_same {am gl : Addr} {H H' : Hp} (s : Same H H') (h : StW am gl H) : StW am gl H' := by
  obtain ⟨ns, sm, at_, h1, h2⟩ := h
  exact ⟨ns, sm, at_, s _ _ h1, s _ _ h2⟩
theorem put_at (gl : Addr) (sm a b : Int) : putK (stKvs gl sm a) (Sum.inr kAt) (.int b) = stKvs gl sm b := rfl
def prs : List Int := [2147483647, 2147483629, 2147483587, 2147483579, 2147483563, 2147483549, 2147483543, 2147483497]
theorem pr_at (k : Int) : ∃ p, atI prs (k.fmod 8) = some p ∧ 2147483497 ≤ p ∧ p ≤ 2147483647 := by
  have h := fmod_r (i := k) (j := 8) (by decide)
  have : k.fmod 8 = 0 ∨ k.fmod 8 = 1 ∨ k.fmod 8 = 2 ∨ k.fmod 8 = 3 ∨ k.fmod 8 = 4 ∨ k.fmod 8 = 5 ∨ k.fmod 8 = 6 ∨ k.fmod 8 = 7 := by omega
  rcases this with e | e | e | e | e | e | e | e <;> rw [e] <;> exact ⟨_, rfl, by decide, by decide⟩
set_option maxHeartbeats 4000000 in
theorem draw_ok {f : Nat} {a : Addr} {fd : FuncData} (F : FunD K "_law_draw" "_law_draw" (defArgs sDraw) (defBody sDraw) (defScope sDraw) [] [] a fd) (blt : ∀ x ∈ bltNames, mg x = none) :
    FnG P w (kk K P w) mg base 1 a fd drawPs (spC (kk K P w) xr (fun _ ss k x => ss.length = 2 ∧ semDraw ss k x) f 2) := by
  obtain ⟨oc, od, dV, kV, doc, pm, an, cdv, ct, osl, rfl, lk, hcd, _, _⟩ := F.ex
  refine fnG_of (N := drawN) lk hcd scDraw (fun vs H Q E h => h.1) fun A outer s H vs Q E md hr hg hsp => ?_
  have S : Site (cxOf (L2.CX P w) P w K mg base drawN "_law_draw" (defScope sDraw) a cdv A outer s H E) (defScope sDraw) := site_of (K := kk K P w) hr hg blt
  have nd : drawN.Nodup := scDraw.nd
  refine ⟨_, pss_cons (ps_set (i := 2) nd rfl (.inl rfl) (pe_ie (N := drawN) S rfl (.g 0 kAt) _ (by decide +kernel)))
    (pss_cons (ps_dput (units1 S) (pe_chkV (N := drawN) (i := 0) S rfl (by decide +kernel)) pe_str (pe_ie (N := drawN) S rfl (.op .add (.v 2) (.c 1)) _ (by decide +kernel)) rfl)
    (pss_cons (ps_if (pt_cmpR (cmp_ok S (o := .ne) rfl) (pe_lb (N := drawN) (b := .fld 0 kGreat) S rfl (by decide +kernel)) (pe_lst pa_nil) (marks_ok (by decide +kernel)))
      (pss_cons (ps_set (i := 3) nd rfl (.inl rfl) (pe_ie (N := drawN) S rfl (.op .mod (.v 2) (.ln (.fld 0 kGreat))) _ (by decide +kernel)))
      (pss_cons (ps_set (i := 4) nd rfl (.inl rfl) (pe_ie (N := drawN) S rfl (.ix (.fld 0 kGreat) (.v 3)) _ (by decide +kernel)))
      (pss_one (ps_if (pt_ie (N := drawN) (o := .gt) (t := .v 4) (u := .c 0) S rfl rfl (by decide +kernel) (by decide +kernel) (by decide +kernel))
        (pss_cons (ps_asg (pe_ie (N := drawN) S rfl (.op .fdiv (.v 4) (.v 1)) _ (by decide +kernel)) (pg_sub (pe_lb (N := drawN) (b := .fld 0 kGreat) S rfl (by decide +kernel)) (pe_chkV (N := drawN) (i := 3) S rfl (by decide +kernel)) set_list))
        (pss_one (ps_ret (pe_ie (N := drawN) S rfl (.op .mod (.v 4) (.v 1)) _ (by decide +kernel))))) pss_nil)))) pss_nil)
    (pss_cons (ps_set (i := 5) nd rfl (.inl rfl) (pe_lst (pa_cons pe_int (pa_cons pe_int (pa_cons pe_int (pa_cons pe_int (pa_cons pe_int (pa_cons pe_int (pa_cons pe_int (pa_cons pe_int pa_nil))))))))))
    (pss_cons (ps_set (i := 6) nd rfl (.inl rfl) (pe_ie (N := drawN) S rfl (.op .mod (.op .add (.op .add (.g 0 kSmall) (.op .mul (.c 7919) (.v 2))) (.c 17)) (.ix (.var 5) (.op .mod (.v 2) (.c 8)))) _ (by decide +kernel)))
    (pss_cons (ps_set (i := 6) nd rfl (.inl rfl) (pe_ie (N := drawN) S rfl (.op .mod (.op .add (.op .mul (.v 6) (.op .add (.c 48271) (.op .mul (.c 2) (.v 2)))) (.op .mul (.c 104729) (.v 2))) (.ix (.var 5) (.op .mod (.v 2) (.c 8)))) _ (by decide +kernel)))
    (pss_one (ps_ret (pe_ie (N := drawN) S rfl (.op .mod (.op .fdiv (.op .mod (.op .mul (.op .mul (.v 6) (.v 6)) (.v 6)) (.ix (.var 5) (.op .mod (.v 2) (.c 8)))) (.c 7)) (.v 1)) _ (by decide +kernel))))))))), ?_⟩
  obtain ⟨hvl, Γ, O, ss, k, x, g1, g2, g3, g4, g5, ⟨g6, many, rfl, m1, m2, hk⟩, g7, g8⟩ := hsp
  cases g5 with | cons r1 g5 => cases g5 with | cons r2 g5 => cases g5 with | nil =>
  rename_i v1 v2
  obtain ⟨rfl, hnn⟩ := r1
  cases r2
  rcases g1.so with z | ⟨am, gl, hne, esv, eM, eW⟩
  · exact absurd z hnn
  rw [esv]
  rw [eW] at g2
  obtain ⟨ns, sm, at_, h1, h2⟩ := g2
  have fin : ∀ r H', 0 ≤ r → r < many → SameM Γ H H' → StW am gl H' → Q (.int r) H' := fun r H' a1 a2 a3 a4 =>
    g7 (.val (.int r)) (.int r) H' (hk r a1 a2) ⟨a3, by rw [eW]; exact a4⟩ (.int r)
  have sM : ∀ {H1 : Hp} {b : Addr} {o : HO}, (b = am ∨ b = gl) → SameM Γ H H1 → SameM Γ H (upd H1 b o) := fun {H1 b o} hb s c u e n => by
    have : c ≠ b := fun z => n (by rw [eM, z]; exact hb)
    rw [upd_ne this]; exact s c u e n
  have sS : ∀ {H1 H2 : Hp}, SameM Γ H H1 → Same H1 H2 → SameM Γ H H2 := fun a b c u e n => b c u (a c u e n)
  -- k = m['at']
  refine ⟨at_, by simp only [ieV, fldV, L2.start, drawN, List.getElem?_cons_zero, List.map_cons, List.cons_append]; rw [h1]; rfl, fun H1 s1 => ?_⟩
  -- m['at'] = k + 1
  refine ⟨at_ + 1, rfl, fun H2 s2 => ⟨_, rfl, am, _, rfl, DPut.k (k := Sum.inr kAt) (s2 _ _ (s1 _ _ h1)) (by show 3 < sizeLine; decide), ?_⟩⟩
  rw [put_at]
  have q1 : (upd H2 am (.dK (stKvs gl sm (at_ + 1)))) am = some (.dK (stKvs gl sm (at_ + 1))) := upd_same
  have q2 : (upd H2 am (.dK (stKvs gl sm (at_ + 1)))) gl = some (.lst (ns.map V.int)) := by rw [upd_ne (Ne.symm hne)]; exact s2 _ _ (s1 _ _ h2)
  have q3 : SameM Γ H (upd H2 am (.dK (stKvs gl sm (at_ + 1)))) := sM (.inl rfl) fun c u e n => s2 _ _ (s1 _ _ e)
  generalize upd H2 am (.dK (stKvs gl sm (at_ + 1))) = H3 at q1 q2 q3
  -- the second half
  have half : ∀ (H3 : Hp) (x3 x4 : Option V), H3 am = some (.dK (stKvs gl sm (at_ + 1))) → H3 gl = some (.lst (ns.map V.int)) → SameM Γ H H3 →
      ∀ p, H3 p = none → (∃ i, ieV [some (.ref am), some (.int many), some (.int at_), x3, x4, some (.ref p), none] (upd H3 p (.lst (prs.map V.int))) (.op .mod (.op .add (.op .add (.g 0 kSmall) (.op .mul (.c 7919) (.v 2))) (.c 17)) (.ix (.var 5) (.op .mod (.v 2) (.c 8)))) = some i ∧
        ∀ H4, Same (upd H3 p (.lst (prs.map V.int))) H4 → ∃ j, ieV [some (.ref am), some (.int many), some (.int at_), x3, x4, some (.ref p), some (.int i)] H4 (.op .mod (.op .add (.op .mul (.v 6) (.op .add (.c 48271) (.op .mul (.c 2) (.v 2)))) (.op .mul (.c 104729) (.v 2))) (.ix (.var 5) (.op .mod (.v 2) (.c 8)))) = some j ∧
        ∀ H5, Same H4 H5 → ∃ r, ieV [some (.ref am), some (.int many), some (.int at_), x3, x4, some (.ref p), some (.int j)] H5 (.op .mod (.op .fdiv (.op .mod (.op .mul (.op .mul (.v 6) (.v 6)) (.v 6)) (.ix (.var 5) (.op .mod (.v 2) (.c 8)))) (.c 7)) (.v 1)) = some r ∧
        ∀ H6, Same H5 H6 → Q (.int r) H6) := by
    intro H3 x3 x4 q1 q2 q3 p hp
    have sp : Same H3 (upd H3 p (.lst (prs.map V.int))) := same_upd hp
    have pp : (upd H3 p (.lst (prs.map V.int))) p = some (.lst (prs.map V.int)) := upd_same
    generalize upd H3 p (.lst (prs.map V.int)) = G at sp pp ⊢
    obtain ⟨p0, ep, l1, l2⟩ := pr_at at_
    have ix : ∀ {G' : Hp} {y : Option V}, Same G G' → ieV [some (.ref am), some (.int many), some (.int at_), x3, x4, some (.ref p), y] G' (.ix (.var 5) (.op .mod (.v 2) (.c 8))) = some p0 := fun {G' y} sg => by
      have e1 : lbN [some (.ref am), some (.int many), some (.int at_), x3, x4, some (.ref p), y] G' (.var 5) = some prs := by
        unfold lbN
        simp only [lbV, List.getElem?_cons_succ, List.getElem?_cons_zero, sg _ _ pp, intsV_map]
      simp only [ieV, e1]
      exact ep
    have hp0 : p0 ≠ 0 := by omega
    refine ⟨(sm + 7919 * at_ + 17).fmod p0, ?_, fun H4 s4 => ?_⟩
    · have e1 : ieV [some (.ref am), some (.int many), some (.int at_), x3, x4, some (.ref p), none] G (.g 0 kSmall) = some sm := by
        simp only [ieV, fldV, List.getElem?_cons_zero, sp _ _ q1]; rfl
      exact ie_op (ie_op (ie_op e1 (ie_op (i := 7919) (j := at_) rfl rfl (s_mulL (by decide))) (s_add _ _)) (j := 17) rfl (s_add _ _)) (ix (.refl _)) (s_mod hp0)
    have b1 := fmod_r (i := sm + 7919 * at_ + 17) (j := p0) (by omega)
    generalize (sm + 7919 * at_ + 17).fmod p0 = i at b1 ⊢
    refine ⟨(i * (48271 + 2 * at_) + 104729 * at_).fmod p0, ?_, fun H5 s5 => ?_⟩
    · exact ie_op (ie_op (ie_op (i := i) rfl (ie_op (i := 48271) rfl (ie_op (i := 2) (j := at_) rfl rfl (s_mulL (by decide))) (s_add _ _)) (s_mulL ⟨by omega, by omega⟩)) (ie_op (i := 104729) (j := at_) rfl rfl (s_mulL (by decide))) (s_add _ _)) (ix s4) (s_mod hp0)
    have b2 := fmod_r (i := i * (48271 + 2 * at_) + 104729 * at_) (j := p0) (by omega)
    generalize (i * (48271 + 2 * at_) + 104729 * at_).fmod p0 = j at b2 ⊢
    have b3 := fmod_r (i := ((j * j * j).fmod p0).fdiv 7) (j := many) m1
    refine ⟨(((j * j * j).fmod p0).fdiv 7).fmod many, ?_, fun H6 s6 => ?_⟩
    · exact ie_op (ie_op (ie_op (ie_op (ie_op (i := j) (j := j) rfl rfl (s_mulL ⟨by omega, by omega⟩)) (j := j) rfl (s_mulR ⟨by omega, by omega⟩)) (ix (s4.trans s5)) (s_mod hp0)) (j := 7) rfl (s_fdiv (by decide) (by decide))) (j := many) rfl (s_mod (by omega))
    · exact fin _ _ b3.1 b3.2 (sS q3 (sp.trans (s4.trans (s5.trans s6)))) (stw_same (sp.trans (s4.trans (s5.trans s6))) ⟨ns, sm, _, q1, q2⟩)
  have eG : ∀ {G : Hp} {x3 x4 x5 x6 : Option V}, G am = some (.dK (stKvs gl sm (at_ + 1))) → lbV [some (.ref am), some (.int many), some (.int at_), x3, x4, x5, x6] G (.fld 0 kGreat) = some (.ref gl) := fun {G x3 x4 x5 x6} h => by
    simp only [lbV, fldV, List.getElem?_cons_zero, h]; rfl
  refine ⟨_, eG q1, Nat.zero_le _, fun p hp => ?_⟩
  have sp : Same H3 (upd H3 p (.lst [])) := same_upd hp
  have pp : (upd H3 p (.lst [])) p = some (.lst []) := upd_same
  generalize upd H3 p (.lst []) = H4 at sp pp ⊢
  refine ⟨noG, fun _ => False, .list (ns.map .int), .list [], .bool (!ns.isEmpty), fun _ z => z.elim, ⟨gl, _, rfl, .inl ⟨.inl (sp _ _ q2), fun z => z⟩, intsV_reps (intsV_map ns)⟩, ⟨p, [], rfl, .inl ⟨.inl pp, fun z => z⟩, .nil⟩, ?_, fun v' H5 s5 r5 => ?_⟩
  · simp only [sem2]
    rw [if_pos (.inr ⟨shapedI ns, by decide⟩), eqvNil]
  cases r5
  have q1' := s5 _ _ (sp _ _ q1)
  have q2' := s5 _ _ (sp _ _ q2)
  have q3' := sS q3 (sp.trans s5)
  refine ⟨_, rfl, ?_⟩
  by_cases hns : ns = []
  · subst hns
    refine iteF ?_
    exact ⟨by decide, fun p hp => half H5 none none q1' q2' q3' p hp⟩
  · have : (!ns.isEmpty) = true := by simp [hns]
    refine ite2 (fun _ => ?_) fun z => absurd this z
    obtain ⟨n, j, en, ej⟩ := at_in hns at_
    have hl : 0 < ns.length := List.length_pos_iff.mpr hns
    have lb : ∀ {G : Hp} {x3 x4 x5 x6 : Option V}, Same H5 G → lbN [some (.ref am), some (.int many), some (.int at_), x3, x4, x5, x6] G (.fld 0 kGreat) = some ns := fun {G x3 x4 x5 x6} sg => by
      unfold lbN
      rw [eG (sg _ _ q1')]
      simp only [sg _ _ q2', intsV_map]
    refine ⟨at_.fmod ns.length, ie_op (i := at_) (j := (ns.length : Nat)) rfl ?_ (s_mod (by omega)), fun H6 s6 => ?_⟩
    · simp only [ieV, L2.start, drawN, List.length_cons, List.length_nil]
      exact congrArg _ (lb (.refl _))
    refine ⟨n, ?_, fun H7 s7 => ?_⟩
    · have := lb (x3 := some (.int (at_.fmod ns.length))) (x4 := none) (x5 := none) (x6 := none) s6
      show (match lbN [some (.ref am), some (.int many), some (.int at_), some (.int (at_.fmod ns.length)), none, none, none] H6 (.fld 0 kGreat), some (at_.fmod ns.length) with | some ns, some i => atI ns i | _, _ => none) = some n
      rw [this]
      exact en
    refine ⟨n, 0, decide (0 < n), rfl, rfl, rfl, fun H8 s8 => ?_⟩
    have s68 := s6.trans (s7.trans s8)
    refine ite2 (fun hb => ?_) fun hb => ?_
    · refine ⟨n.fdiv many, ie_op (i := n) (j := many) rfl rfl (s_fdiv m1 m2), fun H9 s9 => ?_⟩
      have s59 := s68.trans s9
      refine ⟨_, eG (x3 := some (.int (at_.fmod ns.length))) (x4 := some (.int n)) (x5 := none) (x6 := none) (s59 _ _ q1'), _, rfl, gl, _, _, j, rfl, rfl, s59 _ _ q2', by rw [List.length_map]; exact ej, ?_⟩
      have b3 := fmod_r (i := n) (j := many) m1
      refine ⟨n.fmod many, ie_op (i := n) (j := many) rfl rfl (s_mod (by omega)), fun H10 s10 => ?_⟩
      have u1 : (upd H9 gl (.lst ((ns.map V.int).set j (.int (n.fdiv many))))) am = some (.dK (stKvs gl sm (at_ + 1))) := by rw [upd_ne hne]; exact s59 _ _ q1'
      refine fin _ _ b3.1 b3.2 (sS (sM (.inr rfl) (sS q3' s59)) s10) (stw_same s10 ⟨ns.set j (n.fdiv many), sm, at_ + 1, u1, ?_⟩)
      rw [← map_set]
      exact upd_same
    · exact ⟨by decide, fun p hp => half H8 _ _ (s68 _ _ q1') (s68 _ _ q2') (sS q3' s68) p hp⟩
end
end Tk
/-! K3: the drawing's begin: a new state. -/
namespace Tk
open PySem PySem.Spec PyProof.Rows L2
section
variable {P : Program} {w : World} {K : PySem.W.Frag} {mg : Str → Option Value} {base : Heap} {xr : XRep} {F : FT} {C : Cfg}
def begN : List Str := ["_law_script", "_law_m", "_law_cell"]
def begPs : List Str := ["_law_script"]
theorem scBeg : FnScope begN begPs (defScope sBegun) := scope_by (by decide +kernel)
/-- what the begin gives -/
def spBeg (K : KW) : Sp := fun vs H Q _ => ∃ (v : V) (ns : List Int), vs = [v] ∧ ns.length ≤ 1000 ∧ Rep K H (fun _ => False) v (.list (ns.map .int)) ∧
  ∀ am gl H', am ≠ gl → H am = none → H gl = none → Same H H' → StW am gl H' → Q (.ref am) H'
def p18 : CE := .op2 .pow (.const (.int 10)) (.const (.int 18))
def greatC : CE := .comp [2] (.var 2) (.name 2) (.iter (.var 0)) (.op2 .ge (.var 2) p18)
theorem great_loop {δ : Dl} (hl : δ.length = 3) : ∀ (ns acc : List Int) (k : List D → Prop), ns.length + acc.length ≤ 1000 → (∀ ms : List Int, k (ms.map .int)) → loopC (compB noC [2] (.var 2) (.name 2) (.op2 .ge (.var 2) p18) δ) (ns.map .int) (acc.map .int) k
  | [], acc, k, _, hk => hk acc
  | n :: ns, acc, k, hle, hk => by
    have h2 : 2 < δ.length := by omega
    simp only [List.map_cons, loopC, compB, bindT, wipeD, List.length_set]
    refine ⟨h2, ?_⟩
    simp only [List.set_set, evT, ev, p18, List.getElem?_set_self h2, recv, true_and]
    refine ⟨.int (10 ^ 18), by simp [sem2], decide (10 ^ 18 ≤ n), rfl, ?_⟩
    refine ite2 (fun _ => ?_) fun _ => ?_
    · simp only [List.length_cons] at hle
      refine ⟨by rw [List.length_map, sizeLine_eq]; omega, ?_⟩
      have := great_loop hl ns (acc ++ [n]) k (by simp; omega) hk
      simp only [List.map_append, List.map_cons, List.map_nil] at this
      exact this
    · simp only [List.length_cons] at hle
      exact great_loop hl ns acc k (by omega) hk
def smallE : IE := .op .mod (.op .add (.op .add (.op .mul (.g 1 kSmall) (.op .pow (.c 10) (.c 18))) (.op .mod (.v 2) (.op .pow (.c 10) (.c 18)))) (.c 1)) (.op .mul (.op .sub (.op .pow (.c 2) (.c 61)) (.c 1)) (.op .sub (.op .pow (.c 2) (.c 31)) (.c 1)))
theorem put_small (gl : Addr) (a b t : Int) : putK (stKvs gl a t) (Sum.inr kSmall) (.int b) = stKvs gl b t := rfl
theorem beg_ok {a : Addr} {fd : FuncData} (Fu : FunD K "_law_begun" "_law_begun" (defArgs sBegun) (defBody sBegun) (defScope sBegun) [] [] a fd) (blt : ∀ x ∈ bltNames, mg x = none) :
    FnG P w (kk K P w) mg base 1 a fd begPs (spBeg (kk K P w)) := by
  obtain ⟨oc, od, dV, kV, doc, pm, an, cdv, ct, osl, rfl, lk, hcd, _, _⟩ := Fu.ex
  refine fnG_of (N := begN) lk hcd scBeg (fun vs H Q E h => ?_) fun A outer s H vs Q E md hr hg hsp => ?_
  · obtain ⟨v, ns, rfl, _⟩ := h
    rfl
  have hh : HereS (cxOf (L2.CX P w) P w K mg base begN "_law_begun" (defScope sBegun) a cdv A outer s H E) noF begN (defScope sBegun) (fun _ => true) noC noX 0 _ := hereS_of (K := kk K P w) scBeg hr hg blt noStat
  have S := hh.toHere.site
  have nd : begN.Nodup := scBeg.nd
  refine ⟨_, pss_cons (ps_set (i := 1) nd rfl (.inl rfl) (pe_disp (pps_cons pe_str (sO hh.toHere greatC _ (by decide +kernel)) (pps_cons pe_str pe_int (pps_cons pe_str pe_int pps_nil))) rfl rfl (by simp) (by decide)))
    (pss_cons (ps_for hh.po S.calm (sI hh.toHere false (.iter (.var 0)) _ _ (by decide +kernel)) (pg_name (i := 2) nd rfl (.inl rfl)) (pss_one (ps_if (pt_ie (N := begN) (o := .lt) (t := .v 2) (u := .op .pow (.c 10) (.c 18)) S rfl rfl (by decide +kernel) (by decide +kernel) (by decide +kernel))
        (pss_one (ps_dput (units1 S) (pe_chkV (N := begN) (i := 1) S rfl (by decide +kernel)) pe_str (pe_ie (N := begN) S rfl smallE _ (by decide +kernel)) rfl)) pss_nil)) (fun y => rfl))
    (pss_one (ps_ret (pe_chkV (N := begN) (i := 1) S rfl (by decide +kernel))))), ?_⟩
  obtain ⟨v, ns, rfl, hn, rv, q⟩ := hsp
  intro p hp
  have sp : Same H (upd H p (.dK [])) := same_upd hp
  have ep : (upd H p (.dK [])) p = some (.dK []) := upd_same
  generalize upd H p (.dK []) = H1 at sp ep ⊢
  have r1 := Rep.ext (Ext.same sp) _ _ rv
  have fr1 := fr_start (K := K) (P := P) (w := w) (Γ := noG) (N := begN) (ss := [.val (.list (ns.map .int))]) (vs := [v]) noG_ok trivial (fun _ z => z.elim) (fun _ z => z.elim) (.cons r1 .nil) (by show 1 ≤ 3; decide)
  refine ⟨_, _, _, fun sl => ∃ ms : List Int, sl = .own (ms.map .int), fun _ => False, fr1, ?_, ?_, fun _ _ _ _ z => z.elim⟩
  · unfold greatC
    simp only [evO]
    rw [ev_comp]
    simp only [evI, ev, startD, List.map_cons, List.map_nil, List.cons_append, List.getElem?_cons_zero]
    refine ⟨_, rfl, ?_⟩
    exact great_loop (acc := []) rfl ns _ (by simpa using hn) fun ms => ⟨ms, rfl⟩
  rintro sl u H2 O2 ⟨ms, rfl⟩ ow
  obtain ⟨gl, us, rfl, f1, f2, f3, f4⟩ := ow.rep
  obtain rfl := reps_ints f4
  have s2 := later_noG ow.lat
  have hgl : H1 gl = none := f3
  have hpg : p ≠ gl := fun z => by rw [z, hgl] at ep; cases ep
  refine ⟨s2 _ _ ep, [(Sum.inr kGreat, .ref gl), (Sum.inr kSmall, .int 0), (Sum.inr kAt, .int 0)], rfl, by show 3 ≤ 15; decide, ?_⟩
  have em : mergeK [] [(Sum.inr kGreat, .ref gl), (Sum.inr kSmall, .int 0), (Sum.inr kAt, .int 0)] = stKvs gl 0 0 := rfl
  rw [em]
  have w1 : StW p gl (upd H2 p (.dK (stKvs gl 0 0))) := ⟨ms, 0, 0, upd_same, by rw [upd_ne (Ne.symm hpg)]; exact f1⟩
  have s3 : Same H (upd H2 p (.dK (stKvs gl 0 0))) := fun b u e => by
    have : b ≠ p := fun z => by rw [z, hp] at e; cases e
    rw [upd_ne this]; exact s2 _ _ (sp _ _ e)
  generalize upd H2 p (.dK (stKvs gl 0 0)) = H3 at w1 s3 ⊢
  have hgl0 : H gl = none := by
    cases e : H gl with
    | none => rfl
    | some u => rw [sp _ _ e] at hgl; cases hgl
  -- the loop
  have x3 : Ext H H3 (fun _ => False) (fun b => b = p) := ⟨fun b u e _ => s3 b u e, fun b z => .inr (by rw [z]; exact hp), fun b xs e => s3 _ _ e, fun b o u e => s3 _ _ e⟩
  have r3 := Rep.ext x3 _ _ rv
  have ot3 : OTr (fun b => b = p) H3 := fun b z e => by
    obtain ⟨_, _, _, h1, _⟩ := w1
    rw [z, h1] at e; cases e
  have fr3 : Fr (kk K P w) { noG with H0 := H3, O0 := fun b => b = p } [some (.val (.list (ns.map .int))), none, none] [some v, some (.ref p), none] H3 (fun b => b = p) := by
    refine ⟨⟨.inl rfl, fun _ z => z.elim, ot3, fun _ _ _ z => z.elim, fun _ _ _ _ => trivial, fun _ _ _ _ _ z => z.elim, fun _ _ _ z => z.elim⟩, rfl, fun _ _ h _ => h, fun _ h => h, ot3, trivial, fun i s e => ?_, fun i j a ds es h1 _ _ _ => ?_⟩
    · match i, e with
      | 0, e => cases e; exact ⟨v, rfl, r3⟩
      | 1, e => cases e
      | 2, e => cases e
      | i + 3, e => simp at e
    · match i, h1 with
      | 0, e => cases e
      | 1, e => cases e
      | 2, e => cases e
      | i + 3, e => simp at e
  refine ⟨_, _, _, fun xs => xs = ns.map .int, fun _ => False, fr3, ?_, fun xs J H4 ex l4 wk => ?_, fun _ _ _ _ z => z.elim⟩
  · simp only [evI, ev, List.getElem?_cons_zero]
    exact ⟨_, rfl, rfl⟩
  subst ex
  obtain ⟨G, Y, wa, hw⟩ := wk
  have s4 := later_noG l4
  have w4 := stw_same s4 w1
  have okH : ∀ H5, StW p gl H5 → (∀ b u, H4 b = some u → b ≠ p → H5 b = some u) → Ext H4 H5 (fun b => b = p) (fun b => b = p) ∧ OTr (fun b => b = p) H5 := fun H5 w5 k5 => by
    refine ⟨⟨fun b u e n => k5 b u e n, fun b z => .inl z, fun b xs e => k5 b _ e fun z => ?_, fun b o u e => k5 b _ e fun z => ?_⟩, fun b z e => ?_⟩
    · obtain ⟨_, _, _, h1, _⟩ := w4; rw [z, h1] at e; cases e
    · obtain ⟨_, _, _, h1, _⟩ := w4; rw [z, h1] at e; cases e
    · obtain ⟨_, _, _, h1, _⟩ := w5; rw [z, h1] at e; cases e
  refine for_it wa (fun i σ' H' => (∃ y, σ' = [some v, some (.ref p), y]) ∧ StW p gl H' ∧ ∀ b u, H4 b = some u → b ≠ p → H' b = some u) ⟨⟨none, rfl⟩, w4, fun b u e _ => e⟩ ?_ ?_ ?_
  · rintro i σ' H5 _ ⟨_, w5, k5⟩
    exact (hw H5 _ (okH H5 w5 k5).1 (fun z => by cases z) (okH H5 w5 k5).2).1
  · rintro i x σ' H5 H6 hi ⟨⟨y, rfl⟩, w5, k5⟩ hy
    obtain ⟨s6, d, ed, rd⟩ := (hw H5 _ (okH H5 w5 k5).1 (fun z => by cases z) (okH H5 w5 k5).2).2 i x H6 hi hy
    rw [List.getElem?_map] at ed
    obtain ⟨n, e1, rfl⟩ := Option.map_eq_some_iff.mp ed
    cases rd
    have k6 : ∀ b u, H4 b = some u → b ≠ p → H6 b = some u := fun b u e z => s6 _ _ (k5 b u e z)
    have w6 := stw_same s6 w5
    refine ⟨n, 10 ^ 18, decide (n < 10 ^ 18), rfl, rfl, by simp [sem2], fun H7 s7 => ?_⟩
    have k7 : ∀ b u, H4 b = some u → b ≠ p → H7 b = some u := fun b u e z => s7 _ _ (k6 b u e z)
    have w7 := stw_same s7 w6
    refine ite2 (fun _ => ?_) fun _ => ⟨⟨_, rfl⟩, w7, k7⟩
    obtain ⟨ms7, sm, at_, h1, h2⟩ := w7
    have eg : ieV [some v, some (.ref p), some (.int n)] H7 (.g 1 kSmall) = some sm := by
      simp only [ieV, fldV, List.getElem?_cons_succ, List.getElem?_cons_zero, h1]; rfl
    have e18 : ∀ {σ : L2.St}, ieV σ H7 (.op .pow (.c 10) (.c 18)) = some (10 ^ 18) := fun {σ} => by rfl
    have em : ∀ {σ : L2.St}, ieV σ H7 (.op .mul (.op .sub (.op .pow (.c 2) (.c 61)) (.c 1)) (.op .sub (.op .pow (.c 2) (.c 31)) (.c 1))) = some ((2 ^ 61 - 1) * (2 ^ 31 - 1)) := fun {σ} => by rfl
    refine ⟨_, ie_op (ie_op (ie_op (ie_op eg e18 (s_mulR (by decide))) (ie_op (i := n) rfl e18 (s_mod (by decide))) (s_add _ _)) (j := 1) rfl (s_add _ _)) em (s_mod (by decide)), fun H8 s8 => ⟨_, rfl, p, _, rfl, DPut.k (k := Sum.inr kSmall) (s8 _ _ h1) (by show 3 < sizeLine; decide), ⟨_, rfl⟩, ?_, fun b u e z => ?_⟩⟩
    · rw [put_small]
      exact ⟨ms7, _, at_, upd_same, by rw [upd_ne (Ne.symm hpg)]; exact s8 _ _ h2⟩
    · rw [upd_ne z]; exact s8 _ _ (k7 b u e z)
  · rintro σ' H5 ⟨⟨y, rfl⟩, w5, k5⟩
    refine ⟨_, rfl, q p gl H5 hpg hp hgl0 (fun b u e => ?_) w5⟩
    exact k5 b u (s4 _ _ (s3 _ _ e)) fun z => by rw [z, hp] at e; cases e
end
end Tk
/-! K4: the law of k02 keeps its promise, from what the core says. -/
namespace Tk
open PySem PySem.Spec PyProof.Rows L2
def lv : Nat := 8
def cfg : Cfg := ⟨callW tab gl2 lv, gl2⟩
def restB : CS := sq [.asgO 2 (.comp [9] (.call f__law_text (args [(.var 1)])) (.name 9) (.range1 (i_ 16)) .nil),
  .frz 2,
  .asg (.name 3) (.lst (args [(.const .none), (.const (.bool true)), (.const (.bool false)), (i_ 5), (i_ 0), (.tup (args [(s_ "a")])), (.lst (args [(s_ "a")])), (.disp [] (args [])), (.tup (args [])), (.lst (args [])), (.tup (args [(s_ "b"), (s_ "a")])), (.tup (args [(s_ "1")])), (.disp ["a"] (args [(s_ "b")])), (.op2 .pow (i_ 10) (i_ 18)), (s_ "a\n"), (s_ "\n")])),
  .for_ (.name 4) (.range1 (i_ 4)) (sq [.asg (.name 3) (.op2 .add (.var 3) (.op1 .list (.call f__law_things (args [(.var 1)]))))]),
  .asgO 5 (.comp [10] (.op2 .add (s_ "a") (.var 10)) (.name 10) (.iter (s_ "abcdefghijkl")) .nil),
  .frz 5,
  .asg (.name 6) (.op2 .mul (.op2 .pow (.op2 .pow (i_ 10) (i_ 64)) (i_ 64)) (.op2 .pow (.op2 .pow (i_ 10) (i_ 60)) (i_ 16))),
  .asg (.name 3) (.op2 .add (.var 3) (.lst (args [(.op1 .tuple (.var 5)), (.op1 .tuple (.op2 .add (.slc (.var 5) .nopart (.cons (i_ 10) .nil)) (.op1 (.revto 9) (.var 5)))), (.op1 .tuple (.op2 .add (.var 5) (.slc (.var 5) (.cons (.op1 .neg (i_ 1)) .nil) .nopart))), (.var 6)]))),
  .for_ (.name 7) (.iter (.op2 .add (.op2 .add (.var 2) (.var 3)) (.op1 .rev (.var 2)))) (sq [.asg (.name 8) (.lst (args [(.call f__law_is_name (args [(.var 7)])), (.call f__law_rises (args [(.var 7)])), (.call f__law_number (args [(.var 7)]))])),
    .ite (.op2 .ne (.op1 .repr (.lst (args [(.call f_is_name (args [(.var 7)])), (.call f_is_rising (args [(.var 7)])), (.call f_number_in (args [(.var 7)]))]))) (.op1 .repr (.var 8))) (sq [.ret (.const (.bool false))])
      (.nop)]),
  .for_ (.name 7) (.iter (.lst (args [(.const .none), (.const (.bool true)), (.const (.bool false)), (s_ "1"), (.tup (args [(i_ 1)])), (.lst (args [])), (.disp [] (args [])), (.op2 .ix (.var 2) (i_ 0)), (.var 6)]))) (sq [.ite (.not_ (.call f__law_whole_right (args [(.var 1), (.var 7)]))) (sq [.ret (.const (.bool false))])
      (.nop)]),
  .ret (.const (.bool true))]
abbrev sLaw : Stmt := top 21
def lawN : List Str := ["_law_script", "_law_m", "_law_texts", "_law_odd", "_law_turn", "_law_many", "_law_far", "_law_it", "_law_due", "_law_k", "_law_sign"]
def δ1 : Dl := [none, some .st, none, none, none, none, none, none, none, none, none]
def E1 : En := ⟨fun _ => False, fun s => s = .val (.bool true), fun _ => False, fun _ => False, fun _ _ => False⟩
def lawPs : List Str := ["_law_script"]
theorem scLaw : FnScope lawN lawPs (defScope sLaw) := scope_by (by decide +kernel)
def spLaw (K : PySem.W.Frag) : Sp := fun vs H Q _ => ∃ (a : Addr) (ns : List Int), vs = [.ref a] ∧ ns.length ≤ 63 ∧ Only H ∧ SqL K H a (ns.map V.int) ∧ ∀ H', Q (.bl true) H'
theorem stw_ok {am gl : Addr} {H : Hp} (hne : am ≠ gl) (w : StW am gl H) : Gh.Ok ⟨H, fun b => b = am ∨ b = gl, fun b => b = am ∨ b = gl, StW am gl, .ref am⟩ := by
  have tr : ∀ H b, StW am gl H → (b = am ∨ b = gl) → (∃ kvs, H b = some (.dK kvs)) ∨ ∃ xs, H b = some (.lst xs) := by
    rintro H b ⟨ns, sm, at_, h1, h2⟩ (rfl | rfl)
    · exact .inl ⟨_, h1⟩
    · exact .inr ⟨_, h2⟩
  refine ⟨.inr ⟨am, gl, hne, rfl, rfl, rfl⟩, fun b h => h, fun b h e => ?_, fun H w b h e => ?_, fun H H' h w => ?_, fun H H' w _ b h xs e => ?_, fun H b w h o u e => ?_⟩
  · have e' : H b = none := e
    rcases tr H b w h with ⟨_, z⟩ | ⟨_, z⟩ <;> (rw [e'] at z; cases z)
  · rcases tr H b w h with ⟨_, z⟩ | ⟨_, z⟩ <;> (rw [e] at z; cases z)
  · obtain ⟨ns, sm, at_, h1, h2⟩ := w
    exact ⟨ns, sm, at_, by rw [h am (.inl rfl)]; exact h1, by rw [h gl (.inr rfl)]; exact h2⟩
  · rcases tr H b w h with ⟨_, z⟩ | ⟨_, z⟩ <;> (rw [e] at z; cases z)
  · rcases tr H b w h with ⟨_, z⟩ | ⟨_, z⟩ <;> (rw [e] at z; cases z)
section
variable {P : Program} {w : World} {K : PySem.W.Frag} {mg : Str → Option Value} {base : Heap}
theorem law_ok {a aB : Addr} {fd fdB : FuncData} (pure : ex cfg restB δ1 E1)
    (tb : Tab mg K P w tab gl2 noX) (Fu : FunD K "law" "law" (defArgs sLaw) (defBody sLaw) (defScope sLaw) [] [] a fd)
    (FB : FunD K "_law_begun" "_law_begun" (defArgs sBegun) (defBody sBegun) (defScope sBegun) [] [] aB fdB) (gB : mg "_law_begun" = some (.ref aB)) :
    FnG P w (kk K P w) mg base (lv + 1) a fd lawPs (spLaw K) := by
  have blt := tb.blt
  have GB : FnG P w (kk K P w) mg base lv aB fdB begPs (spBeg (kk K P w)) := (beg_ok FB blt).mono (by decide)
  have bB : Binds K fdB begPs [] := FB.bindsN fun _ _ _ _ _ _ us hl => match us, hl with | [_], _ => rfl
  have kB := FB.kp
  obtain ⟨oc, od, dV, kV, doc, pm, an, cdv, ct, osl, rfl, lk, hcd, _, _⟩ := Fu.ex
  refine fnG_of (N := lawN) lk hcd scLaw (fun vs H Q E h => ?_) fun A outer s H vs Q E md hr hg hsp => ?_
  · obtain ⟨v, ns, rfl, _⟩ := h
    rfl
  have hh : HereS (cxOf (L2.CX P w) P w K mg base lawN "law" (defScope sLaw) a cdv A outer s H E) (tabF tab) lawN (defScope sLaw) (fun _ => true) cfg noX lv _ :=
    hereS_of (K := kk K P w) scLaw hr hg blt ⟨tb.glob, tb.gd, tb.xm, fun f nm np hF ss k x h => callW_len hF h, fun f nm np hF => sound tb base lv f nm np hF⟩
  have S := hh.toHere.site
  have nd : lawN.Nodup := scLaw.nd
  refine ⟨_, pss_cons (ps_asg (pe_callG hh.toHere gB kB bB GB (by decide +kernel) (by decide +kernel) (by decide +kernel) (pa_cons (pe_chkV (N := lawN) (i := 0) S rfl (by decide +kernel)) pa_nil))
      (pg_name (i := 1) nd rfl (.inr rfl)) rfl rfl)
    (gSs hh restB _ (by decide +kernel)), ?_⟩
  obtain ⟨as, ns, rfl, hn, ho, hs, q⟩ := hsp
  refine ⟨_, rfl, _, ns, rfl, by omega, ?_, fun am gl H1 hne h1 h2 s1 w1 => ?_⟩
  · refine .lst ?_ (intsV_reps (intsV_map ns))
    rcases hs with hs | hs
    · exact .inl ⟨hs, fun z => z⟩
    · exact .inr hs
  have gok := stw_ok hne w1
  have fr0 : Fr (kk K P w) ⟨H1, fun b => b = am ∨ b = gl, fun b => b = am ∨ b = gl, StW am gl, .ref am⟩ (List.replicate 11 none) (L2.start lawN [.ref as]) H1 (fun b => b = am ∨ b = gl) := by
    refine ⟨gok, rfl, fun _ _ h _ => h, fun _ h => h, gok.ot, w1, fun i s e => ?_, fun i j b ds es e _ _ _ => ?_⟩
    · rw [List.getElem?_replicate] at e; split at e <;> cases e
    · rw [List.getElem?_replicate] at e; split at e <;> cases e
  have fr2 := fr0.setO (i := 1) (s := .st) (v := .ref am) (by decide) ⟨rfl, by simp⟩ (fun _ _ z => by cases z)
  refine ⟨_, δ1, _, E1, fr2, pure, ⟨fun _ _ _ _ z => z.elim, fun s v H' hs ro => ?_, fun _ _ _ _ z => z.elim, fun _ _ _ _ z => z.elim, fun _ _ _ _ _ _ _ z => z.elim⟩⟩
  have hs' : s = .val (.bool true) := hs
  subst hs'
  obtain ⟨_, _, O', _, r⟩ := ro
  cases r
  exact q H'
end
end Tk
/-! the head of k02. -/
namespace Tk
open PySem PySem.Spec PyProof.Rows L2
def dd (x : Str) (i : Nat) : He.DefD := ⟨(x, none), x, x, defArgs (top i), defBody (top i), defScope (top i), [], []⟩
theorem no_prim {P : Program} {w : World} {K : PySem.W.Frag} {mg : Str → Option Value} {base : Heap} {lvl f np : Nat} {a : Addr} {fd : FuncData} {ps : List Str} {xr : XRep} : FnG P w (kk K P w) mg base lvl a fd ps (spC (kk K P w) xr (fun _ ss k x => ss.length = np ∧ False) f np) :=
  ⟨fun vs H Q E ⟨_, _, _, _, _, _, _, _, _, _, _, h, _⟩ => h.2.elim, fun A outer s H args us vs Q E _ _ _ _ _ ⟨_, _, _, _, _, _, _, _, _, _, _, h, _⟩ => h.2.elim⟩
def fnD : List He.DefD := [dd "is_whole" 5, dd "is_of" 6, dd "is_name" 7, dd "is_rising" 8, dd "number_in" 9, dd "_law_begun" 11, dd "_law_draw" 12, dd "_law_signs" 13, dd "_law_any" 14, dd "_law_text" 15, dd "_law_things" 16, dd "_law_is_name" 17, dd "_law_rises" 18, dd "_law_number" 19, dd "_law_whole_right" 20, dd "law" 21]
def faD : List He.Fa := [.glo "is_whole", .glo "is_of", .glo "is_name", .glo "is_rising", .glo "number_in", .glo "_law_begun", .glo "_law_draw", .glo "_law_signs", .glo "_law_any", .glo "_law_text", .glo "_law_things", .glo "_law_is_name", .glo "_law_rises", .glo "_law_number", .glo "_law_whole_right", .glo "law", .str "SMALL" "abcdefghijklmnopqrstuvwxyz", .str "FIGURES" "0123456789", .int "LONGEST" 8, .int "MOST_FIGURES" 6] ++ bltNames.map He.Fa.free
abbrev RW : PySem.W.OpenRow := PySem.W.OpenLaw.row PySem.Challenge.rw_tiekeep_k02_names_and_numbers
abbrev hk : PySem.W.Hook := He.hookD 4 faD fnD
def ob (s : PySem.W.SharedT) : He.AlD := He.obsDG 4 faD fnD (HandSHeadRun.getT s)
theorem ob_eq (s : PySem.W.SharedT) : ob s = hk.obs s.abs := He.obsDG_eq (HandSHeadRun.getT_eq s)
def looseD : List Str := ["SMALL", "FIGURES", "LONGEST", "MOST_FIGURES", "is_whole", "is_of", "is_name", "is_rising", "number_in", "_law_begun", "_law_draw", "_law_signs", "_law_any", "_law_text", "_law_things", "_law_is_name", "_law_rises", "_law_number", "_law_whole_right"]
theorem run (w : World) : HandSHeadRun.RunEq RW (PySem.W.view RW.prog [21]) hk ob 2000 looseD w := by
  intro os
  kernel_rfl
theorem facts {P : Program} {w : World} {K : PySem.W.Frag} {h : Heap} {mg : Str → Option Value} {f : Addr} (X : K.In h) (G : h.Ns mainGlobals mg) (hfa : mg ("law" : Str) = some (.ref f)) (c : He.SaysD faD fnD K) (pure : ex cfg restB δ1 E1) :
    ∃ fd : FuncData, (∀ (s : Shared) (v : Value), BindsTo s fd ⟨[v], []⟩ [("_law_script", v)]) ∧ ∀ base : Heap, FnG P w (kk K P w) mg base (lv + 1) f fd lawPs (spLaw K) := by
  obtain ⟨fd_is_whole, F_is_whole⟩ := c.def_ 0 (d := dd "is_whole" 5) rfl
  have g_is_whole := He.glo_ok X G (c.fact 0 (f := .glo "is_whole") rfl)
  obtain ⟨fd_is_of, F_is_of⟩ := c.def_ 1 (d := dd "is_of" 6) rfl
  have g_is_of := He.glo_ok X G (c.fact 1 (f := .glo "is_of") rfl)
  obtain ⟨fd_is_name, F_is_name⟩ := c.def_ 2 (d := dd "is_name" 7) rfl
  have g_is_name := He.glo_ok X G (c.fact 2 (f := .glo "is_name") rfl)
  obtain ⟨fd_is_rising, F_is_rising⟩ := c.def_ 3 (d := dd "is_rising" 8) rfl
  have g_is_rising := He.glo_ok X G (c.fact 3 (f := .glo "is_rising") rfl)
  obtain ⟨fd_number_in, F_number_in⟩ := c.def_ 4 (d := dd "number_in" 9) rfl
  have g_number_in := He.glo_ok X G (c.fact 4 (f := .glo "number_in") rfl)
  obtain ⟨fd__law_begun, F__law_begun⟩ := c.def_ 5 (d := dd "_law_begun" 11) rfl
  have g__law_begun := He.glo_ok X G (c.fact 5 (f := .glo "_law_begun") rfl)
  obtain ⟨fd__law_draw, F__law_draw⟩ := c.def_ 6 (d := dd "_law_draw" 12) rfl
  have g__law_draw := He.glo_ok X G (c.fact 6 (f := .glo "_law_draw") rfl)
  obtain ⟨fd__law_signs, F__law_signs⟩ := c.def_ 7 (d := dd "_law_signs" 13) rfl
  have g__law_signs := He.glo_ok X G (c.fact 7 (f := .glo "_law_signs") rfl)
  obtain ⟨fd__law_any, F__law_any⟩ := c.def_ 8 (d := dd "_law_any" 14) rfl
  have g__law_any := He.glo_ok X G (c.fact 8 (f := .glo "_law_any") rfl)
  obtain ⟨fd__law_text, F__law_text⟩ := c.def_ 9 (d := dd "_law_text" 15) rfl
  have g__law_text := He.glo_ok X G (c.fact 9 (f := .glo "_law_text") rfl)
  obtain ⟨fd__law_things, F__law_things⟩ := c.def_ 10 (d := dd "_law_things" 16) rfl
  have g__law_things := He.glo_ok X G (c.fact 10 (f := .glo "_law_things") rfl)
  obtain ⟨fd__law_is_name, F__law_is_name⟩ := c.def_ 11 (d := dd "_law_is_name" 17) rfl
  have g__law_is_name := He.glo_ok X G (c.fact 11 (f := .glo "_law_is_name") rfl)
  obtain ⟨fd__law_rises, F__law_rises⟩ := c.def_ 12 (d := dd "_law_rises" 18) rfl
  have g__law_rises := He.glo_ok X G (c.fact 12 (f := .glo "_law_rises") rfl)
  obtain ⟨fd__law_number, F__law_number⟩ := c.def_ 13 (d := dd "_law_number" 19) rfl
  have g__law_number := He.glo_ok X G (c.fact 13 (f := .glo "_law_number") rfl)
  obtain ⟨fd__law_whole_right, F__law_whole_right⟩ := c.def_ 14 (d := dd "_law_whole_right" 20) rfl
  have g__law_whole_right := He.glo_ok X G (c.fact 14 (f := .glo "_law_whole_right") rfl)
  obtain ⟨fd_law, F_law⟩ := c.def_ 15 (d := dd "law" 21) rfl
  have e := hfa.symm.trans (He.glo_ok X G (c.fact 15 (f := .glo "law") rfl))
  cases e
  have blt : ∀ x ∈ bltNames, mg x = none := fun x hx => He.free_ok X G (c.facts (f := .free x) (List.mem_append_right _ (List.mem_map_of_mem hx)))
  have tb : Tab mg K P w tab gl2 noX := by
    refine ⟨blt, fun x d h _ => ?_, fun x es h => ?_, fun _ _ _ _ _ _ _ h => h.elim, fun i d e => ?_, fun i nm np lvl sem e => ?_⟩
    · unfold gl2 at h
      by_cases e0 : x = "SMALL"
      · subst e0
        obtain ⟨t, m⟩ := He.str_ok X G (c.fact 16 (f := .str "SMALL" "abcdefghijklmnopqrstuvwxyz") rfl)
        have h : some _ = some d := h
        cases h
        exact ⟨_, .str "abcdefghijklmnopqrstuvwxyz", m, ⟨t, rfl⟩, fun _ _ => .str _ (by decide +kernel)⟩
      rw [if_neg e0] at h
      by_cases e1 : x = "FIGURES"
      · subst e1
        obtain ⟨t, m⟩ := He.str_ok X G (c.fact 17 (f := .str "FIGURES" "0123456789") rfl)
        have h : some _ = some d := h
        cases h
        exact ⟨_, .str "0123456789", m, ⟨t, rfl⟩, fun _ _ => .str _ (by decide +kernel)⟩
      rw [if_neg e1] at h
      by_cases e2 : x = "LONGEST"
      · subst e2
        obtain ⟨t, m⟩ := He.int_ok X G (c.fact 18 (f := .int "LONGEST" 8) rfl)
        have h : some _ = some d := h
        cases h
        exact ⟨_, .int _, m, ⟨t, rfl⟩, fun _ _ => .int _⟩
      rw [if_neg e2] at h
      by_cases e3 : x = "MOST_FIGURES"
      · subst e3
        obtain ⟨t, m⟩ := He.int_ok X G (c.fact 19 (f := .int "MOST_FIGURES" 6) rfl)
        have h : some _ = some d := h
        cases h
        exact ⟨_, .int _, m, ⟨t, rfl⟩, fun _ _ => .int _⟩
      rw [if_neg e3] at h
      cases h
    · unfold gl2 at h
      by_cases e0 : x = "SMALL"
      · rw [if_pos e0] at h; cases h
      rw [if_neg e0] at h
      by_cases e1 : x = "FIGURES"
      · rw [if_pos e1] at h; cases h
      rw [if_neg e1] at h
      by_cases e2 : x = "LONGEST"
      · rw [if_pos e2] at h; cases h
      rw [if_neg e2] at h
      by_cases e3 : x = "MOST_FIGURES"
      · rw [if_pos e3] at h; cases h
      rw [if_neg e3] at h
      cases h
    · match i, e with
      | 0, e => cases e; exact ⟨ok_is_whole, _, _, g_is_whole, F_is_whole⟩
      | 1, e => cases e; exact ⟨ok_is_of, _, _, g_is_of, F_is_of⟩
      | 2, e => cases e; exact ⟨ok_is_name, _, _, g_is_name, F_is_name⟩
      | 3, e => cases e; exact ⟨ok_is_rising, _, _, g_is_rising, F_is_rising⟩
      | 4, e => cases e; exact ⟨ok_number_in, _, _, g_number_in, F_number_in⟩
      | 5, e => cases e
      | 6, e => cases e
      | 7, e => cases e; exact ⟨ok__law_signs, _, _, g__law_signs, F__law_signs⟩
      | 8, e => cases e; exact ⟨ok__law_any, _, _, g__law_any, F__law_any⟩
      | 9, e => cases e; exact ⟨ok__law_text, _, _, g__law_text, F__law_text⟩
      | 10, e => cases e; exact ⟨ok__law_things, _, _, g__law_things, F__law_things⟩
      | 11, e => cases e; exact ⟨ok__law_is_name, _, _, g__law_is_name, F__law_is_name⟩
      | 12, e => cases e; exact ⟨ok__law_rises, _, _, g__law_rises, F__law_rises⟩
      | 13, e => cases e; exact ⟨ok__law_number, _, _, g__law_number, F__law_number⟩
      | 14, e => cases e; exact ⟨ok__law_whole_right, _, _, g__law_whole_right, F__law_whole_right⟩
      | 15, e => cases e
      | i + 16, e => simp [tab] at e
    · match i, e with
      | 0, e => cases e
      | 1, e => cases e
      | 2, e => cases e
      | 3, e => cases e
      | 4, e => cases e
      | 5, e => cases e; exact ⟨_, _, _, g__law_begun, F__law_begun.kp, rfl, F__law_begun.bindsN (ps := ["_law_script"]) fun _ _ _ _ _ _ us hl => match us, hl with | [_], _ => rfl, fun base => no_prim⟩
      | 6, e => cases e; exact ⟨_, _, _, g__law_draw, F__law_draw.kp, rfl, F__law_draw.bindsN (ps := ["_law_m", "_law_many"]) fun _ _ _ _ _ _ us hl => match us, hl with | [_, _], _ => rfl, fun base => draw_ok F__law_draw blt⟩
      | 7, e => cases e
      | 8, e => cases e
      | 9, e => cases e
      | 10, e => cases e
      | 11, e => cases e
      | 12, e => cases e
      | 13, e => cases e
      | 14, e => cases e
      | 15, e => cases e; exact ⟨_, _, _, hfa, F_law.kp, rfl, F_law.bindsN (ps := ["_law_script"]) fun _ _ _ _ _ _ us hl => match us, hl with | [_], _ => rfl, fun base => no_prim⟩
      | i + 16, e => simp [tab] at e
  have b := FunD.bindsA (ps := ["_law_script"]) F_law fun _ _ _ _ _ _ us hl => match us, hl with | [_], _ => rfl
  exact ⟨fd_law, fun s v => b s [v] rfl, fun base => law_ok pure tb F_law F__law_begun g__law_begun⟩
end Tk
open PySem PySem.W PySem.Calls PyProof.Rows
theorem law_of (pure : Tk.ex Tk.cfg Tk.restB Tk.δ1 Tk.E1) : PySem.Challenge.rw_tiekeep_k02_names_and_numbers.Holds := by
  w_on; o_law
  refine HandSHeadRun.head_any (r := OpenLaw.row PySem.Challenge.rw_tiekeep_k02_names_and_numbers) (q := view (OpenLaw.row PySem.Challenge.rw_tiekeep_k02_names_and_numbers).prog [21]) (H := Tk.hk) (ob := Tk.ob) (M := 2000) (loose := Tk.looseD) (d := HandSHeadRun.topDef (OpenLaw.row PySem.Challenge.rw_tiekeep_k02_names_and_numbers).prog 21) (kwd := []) Tk.ob_eq
    (by kernel_rfl) (fun s => by kernel_rfl) Tk.run (by kernel_rfl) (by kernel_rfl) (by kernel_rfl) (by rfl) (by first | assumption | decide +kernel) (by decide +kernel) ⟨rfl, rfl, rfl, rfl, rfl, by decide +kernel⟩ ?hw ?hc
  case hw => w_witness2
  case hc =>
    refine Tk.walk_ofG (l := PySem.Challenge.rw_tiekeep_k02_names_and_numbers) (n := 63) (k := Tk.lv + 1) (x := "_law_script") rfl (by decide) (by kernel_rfl) ⟨rfl, by decide, by decide⟩ ?F
    intro w mg fa h Y G hmg0
    obtain ⟨K, KX, c⟩ := Y
    have hmg : mg ("law" : PySem.Str) = some (.ref fa) := by
      have e : (HandSHeadRun.topDef (OpenLaw.row PySem.Challenge.rw_tiekeep_k02_names_and_numbers).prog 21).name = ("law" : PySem.Str) := by kernel_rfl
      rw [← e]
      exact hmg0
    obtain ⟨fd, hb, hF⟩ := Tk.facts (P := (PySem.Challenge.rw_tiekeep_k02_names_and_numbers).prog) (w := w) KX G hmg c pure
    exact ⟨K, fd, Tk.spLaw K, KX, hb, fun H a ns hl hO hS => ⟨a, ns, rfl, hl, hO, hS, fun _ => rfl⟩, hF⟩
/-! K6: the plain law of k02, first part: names, rising rows, whole numbers. -/
namespace Tk
open PySem PySem.Spec PyProof.Rows L2
def okS (z : Str) : Prop := (∀ c ∈ z.cps.toList, c < 128) ∧ z.length ≤ 1000
def plainD (d : D) : Prop := dsetOf d = none ∧ ∀ z, d = .str z → okS z
def inS (z s : Str) : Bool := z.cps.toList.all fun c => decide (c ∈ s.cps.toList)
def isOf (d : D) (s : Str) (m : Int) : Bool := match d with
  | .str z => decide ((1 : Int) ≤ (z.length : Nat)) && (decide (((z.length : Nat) : Int) ≤ m) && inS z s)
  | _ => false
theorem q_isi1 {t : Str} {d : D} (h : dsetOf d = none) : sem1 (.isi [t]) d = some (.bool (isiD t d)) := by
  simp [sem1, h]
theorem inn1 (c : Nat) (z : Str) : sem2 .inn (.str ⟨#[c]⟩) (.str z) = some (.bool (decide (c ∈ z.cps.toList))) := rfl
theorem nin1 (c : Nat) (z : Str) : sem2 .nin (.str ⟨#[c]⟩) (.str z) = some (.bool (!decide (c ∈ z.cps.toList))) := rfl
theorem chars_len (z : Str) : (chars z).length = z.length := by
  unfold chars
  rw [List.length_map]; rfl
theorem loop_if {α : Type} {bd : D → List D → (List D → Prop) → Prop} (f g : α → D) (p : α → Bool) : ∀ (xs : List α) (acc : List D) (k : List D → Prop), acc.length + xs.length ≤ sizeLine →
    (∀ a ∈ xs, ∀ (acc : List D) (k' : List D → Prop), acc.length < sizeLine → (if p a = true then k' (acc ++ [g a]) else k' acc) → bd (f a) acc k') → k (acc ++ (xs.filter p).map g) → loopC bd (xs.map f) acc k
  | [], acc, k, _, _, hk => by simpa [loopC] using hk
  | y :: xs, acc, k, hl, h, hk => by
    simp only [List.length_cons] at hl
    simp only [List.map_cons, loopC]
    refine h y (by simp) acc _ (by omega) ?_
    cases hp : p y with
    | true =>
      rw [if_pos rfl]
      refine loop_if f g p xs _ k (by simp; omega) (fun z hz => h z (by simp [hz])) ?_
      simpa [List.filter_cons, hp] using hk
    | false =>
      rw [if_neg (by simp)]
      refine loop_if f g p xs _ k (by omega) (fun z hz => h z (by simp [hz])) ?_
      simpa [List.filter_cons, hp] using hk
theorem loop_map {α : Type} {bd : D → List D → (List D → Prop) → Prop} (f g : α → D) (xs : List α) (k : List D → Prop) (hl : xs.length ≤ sizeLine)
    (h : ∀ a ∈ xs, ∀ (acc : List D) (k' : List D → Prop), acc.length < sizeLine → k' (acc ++ [g a]) → bd (f a) acc k') (hk : k (xs.map g)) : loopC bd (xs.map f) [] k :=
  loop_if f g (fun _ => true) xs [] k (by simpa using hl) (fun a ha acc k' hl hk => h a ha acc k' hl (by simpa using hk)) (by rw [List.filter_eq_self.mpr (by simp)]; simpa using hk)
theorem loop_mapD {bd : D → List D → (List D → Prop) → Prop} (g : D → D) (xs : List D) (k : List D → Prop) (hl : xs.length ≤ sizeLine)
    (h : ∀ a ∈ xs, ∀ (acc : List D) (k' : List D → Prop), acc.length < sizeLine → k' (acc ++ [g a]) → bd a acc k') (hk : k (xs.map g)) : loopC bd xs [] k := by
  have := loop_map (bd := bd) id g xs k hl h hk
  rwa [List.map_id] at this
theorem loop_ifD {bd : D → List D → (List D → Prop) → Prop} (g : D → D) (p : D → Bool) (xs : List D) (k : List D → Prop) (hl : xs.length ≤ sizeLine)
    (h : ∀ a ∈ xs, ∀ (acc : List D) (k' : List D → Prop), acc.length < sizeLine → (if p a = true then k' (acc ++ [g a]) else k' acc) → bd a acc k') (hk : k ((xs.filter p).map g)) : loopC bd xs [] k := by
  have := loop_if (bd := bd) id g p xs [] k (by simpa using hl) h (by simpa using hk)
  rwa [List.map_id] at this
theorem q_all (bs : List Bool) : sem1 .all (.list (bs.map .bool)) = some (.bool (bs.all id)) := by
  simp [sem1, boolsD_map]
theorem len_le {z : Str} (h : okS z) : z.cps.toList.length ≤ sizeLine := by
  have := h.2
  have e : z.cps.toList.length = z.length := Array.length_toList
  rw [e, sizeLine_eq]; omega
theorem call_is_of {n : Nat} {d : D} {s : Str} {m : Int} {k : Slot → Prop} {x : KX} (hd : plainD d) (h : k (.val (.bool (isOf d s m)))) : callW tab gl2 (n + 1) f_is_of [.val d, .val (.str s), .val (.int m)] k x := by
  refine call_code (d := d_is_of) rfl rfl ?_
  show ex _ b_is_of [some (.val d), some (.val (.str s)), some (.val (.int m)), none] _
  simp only [b_is_of, sq, ex, ev, args, evA, evO, evOs, evT, evP, i_, s_, recv, true_and, List.getElem?_cons_succ, List.getElem?_cons_zero, Option.some.injEq, exists_eq_left', List.length_cons, List.length_nil, List.length_set, List.set_cons_succ, List.set_cons_zero, Nat.zero_add, Nat.reduceAdd, Nat.reduceLT, ↓reduceIte, enD]
  refine ⟨_, q_isi1 hd.1, _, rfl, ?_⟩
  cases d with
  | str z =>
    rw [if_pos (show isiD (Str.ofString "str") (.str z) = true from rfl)]
    refine ⟨_, q_lenS, _, q_leI, ?_⟩
    simp only [isOf] at h
    refine ite2 (fun h1 => ?_) fun h1 => ?_
    · refine ⟨_, q_leI, _, rfl, ite2 (fun h2 => ?_) fun h2 => ?_⟩
      · simp only [evI, ev, List.getElem?_cons_zero, itemsD]
        refine ⟨_, rfl, ?_⟩
        refine loop_map (fun c => .str ⟨#[c]⟩) (fun c => .bool (decide (c ∈ s.cps.toList))) z.cps.toList _ (len_le (hd.2 z rfl)) (fun c _ acc k' hl hk => ?_) ?_
        · simp only [bindT, bindTs, List.length_cons, List.length_nil, List.length_set, List.set_cons_succ, List.set_cons_zero, Nat.zero_add, Nat.reduceAdd, Nat.reduceLT, true_and, wipeD]
          exact ⟨_, inn1 c s, hl, hk⟩
        · have e : (z.cps.toList.map fun c => PyData.bool (decide (c ∈ s.cps.toList))) = (z.cps.toList.map fun c => decide (c ∈ s.cps.toList)).map .bool := by rw [List.map_map]; rfl
          rw [e]
          refine ⟨_, q_all _, ?_⟩
          rw [h1, h2] at h
          have e2 : (z.cps.toList.map fun c => decide (c ∈ s.cps.toList)).all id = inS z s := by unfold inS; rw [List.all_map]; rfl
          rw [e2]
          simpa using h
      · have h2 : decide (((z.length : Nat) : Int) ≤ m) = false := by simpa using h2
        rw [h1, h2] at h
        simpa using h
    · have h1 : decide ((1 : Int) ≤ (z.length : Nat)) = false := by simpa using h1
      rw [h1] at h
      refine ⟨false, rfl, ?_⟩
      simpa using h
  | none => rw [if_neg (by simp only [isiD]; decide +kernel)]; exact h
  | bool b => rw [if_neg (by simp only [isiD]; decide +kernel)]; exact h
  | int b => rw [if_neg (by simp only [isiD]; decide +kernel)]; exact h
  | list b => rw [if_neg (by simp only [isiD]; decide +kernel)]; exact h
  | tuple b => rw [if_neg (by simp only [isiD]; decide +kernel)]; exact h
  | dict b => rw [if_neg (by simp only [isiD]; decide +kernel)]; exact h
def SMALL_ : Str := "abcdefghijklmnopqrstuvwxyz"
def FIG_ : Str := "0123456789"
theorem call_is_name {n : Nat} {d : D} {k : Slot → Prop} {x : KX} (hd : plainD d) (h : k (.val (.bool (isOf d SMALL_ 8)))) : callW tab gl2 (n + 2) f_is_name [.val d] k x := by
  refine call_code (d := d_is_name) rfl rfl ?_
  show ex _ b_is_name [some (.val d)] _
  simp only [b_is_name, sq, ex, ev, args, evA, evO, evOs, evT, evP, i_, s_, recv, true_and, List.getElem?_cons_succ, List.getElem?_cons_zero, Option.some.injEq, exists_eq_left', List.length_cons, List.length_nil, List.length_set, List.set_cons_succ, List.set_cons_zero, Nat.zero_add, Nat.reduceAdd, Nat.reduceLT, ↓reduceIte, enD]
  refine ⟨.str SMALL_, rfl, rfl, .int 8, rfl, rfl, ?_⟩
  exact call_is_of hd ⟨_, rfl, h⟩
/-- rising -/
def risesB : List Str → Bool
  | [] => true
  | [_] => true
  | x :: y :: r => ltS x y && risesB (y :: r)
def textsD : List D → List Str
  | [] => []
  | .str z :: r => z :: textsD r
  | _ :: r => textsD r
def isRising : D → Bool
  | .tuple ds => (ds.all fun d => isOf d SMALL_ 8) && risesB (textsD ds)
  | _ => false
theorem texts_of {ds : List D} (h : (ds.all fun d => isOf d SMALL_ 8) = true) : ds = (textsD ds).map .str := by
  induction ds with
  | nil => rfl
  | cons d ds ih =>
    simp only [List.all_cons, Bool.and_eq_true] at h
    cases d <;> first | (simp [isOf] at h; done) | skip
    simp only [textsD, List.map_cons]
    rw [← ih h.2]
theorem zip_rise : ∀ (xs : List Str), ((xs.zip (xs.drop 1)).all fun p => ltS p.1 p.2) = risesB xs
  | [] => rfl
  | [_] => rfl
  | x :: y :: r => by
    have := zip_rise (y :: r)
    simp only [List.drop_succ_cons, List.drop_zero, List.zip_cons_cons, List.all_cons, risesB] at this ⊢
    rw [this]
def Row (d : D) : Prop := dsetOf d = none ∧ (∀ z, d = .str z → okS z) ∧ ∀ ds, d = .tuple ds → ds.length ≤ 1000 ∧ ∀ e ∈ ds, plainD e ∧ (e.canLay0 = true ∧ e.depth ≤ 63)
theorem Row.plain {d : D} (h : Row d) : plainD d := ⟨h.1, h.2.1⟩
theorem cut1 (ds : List D) : cutD ds (some 1) none = ds.drop 1 := by
  unfold cutD HT.sIx
  cases ds with
  | nil => rfl
  | cons d ds => simp [HT.sIx, List.length_cons] <;> omega
theorem zipS (xs : List Str) : zipD (xs.map .str) ((xs.map PyData.str).drop 1) = (xs.zip (xs.drop 1)).map fun p => .tuple [.str p.1, .str p.2] := by
  unfold zipD
  rw [← List.map_drop, List.zip_map, List.map_map]
  rfl
theorem texts_len (ds : List D) : (textsD ds).length ≤ ds.length := by
  induction ds with
  | nil => simp [textsD]
  | cons d ds ih => cases d <;> simp [textsD] <;> omega
theorem call_is_rising {n : Nat} {d : D} {k : Slot → Prop} {x : KX} (hd : Row d) (h : k (.val (.bool (isRising d)))) : callW tab gl2 (n + 3) f_is_rising [.val d] k x := by
  refine call_code (d := d_is_rising) rfl rfl ?_
  show ex _ b_is_rising [some (.val d), none, none] _
  simp only [b_is_rising, sq, ex, ev, args, evA, evO, evOs, evT, evP, i_, s_, recv, true_and, List.getElem?_cons_succ, List.getElem?_cons_zero, Option.some.injEq, exists_eq_left', List.length_cons, List.length_nil, List.length_set, List.set_cons_succ, List.set_cons_zero, Nat.zero_add, Nat.reduceAdd, Nat.reduceLT, ↓reduceIte, enD]
  refine ⟨_, q_isi1 hd.1, ?_⟩
  cases d with
  | tuple ds =>
    have hds := hd.2.2 ds rfl
    have hz : ds.length ≤ sizeLine := by rw [sizeLine_eq]; omega
    rw [if_neg (by simp only [isiD]; decide +kernel)]
    simp only [evI, ev, List.getElem?_cons_zero, itemsD]
    refine ⟨_, rfl, ?_⟩
    refine loop_mapD (fun d => .bool (isOf d SMALL_ 8)) ds _ hz (fun d hm acc k' hl hk => ?_) ?_
    · simp only [bindT, bindTs, List.length_cons, List.length_nil, List.length_set, List.set_cons_succ, List.set_cons_zero, Nat.zero_add, Nat.reduceAdd, Nat.reduceLT, true_and, wipeD]
      exact call_is_name (hds.2 d hm).1 ⟨_, rfl, hl, hk⟩
    · have e : (ds.map fun d => PyData.bool (isOf d SMALL_ 8)) = (ds.map fun d => isOf d SMALL_ 8).map .bool := by rw [List.map_map]; rfl
      rw [e]
      refine ⟨_, q_all _, ?_⟩
      have e2 : (ds.map fun d => isOf d SMALL_ 8).all id = ds.all fun d => isOf d SMALL_ 8 := by rw [List.all_map]; rfl
      rw [e2]
      simp only [isRising] at h
      cases ha : ds.all fun d => isOf d SMALL_ 8 with
      | false =>
        rw [ha] at h
        simpa using h
      | true =>
        rw [ha] at h
        rw [if_neg (by simp)]
        simp only [ex, ev, args, evA, evO, evOs, evT, evP, i_, s_, recv, true_and, List.getElem?_cons_succ, List.getElem?_cons_zero, Option.some.injEq, exists_eq_left', List.length_cons, List.length_nil, List.length_set, List.set_cons_succ, List.set_cons_zero, Nat.zero_add, Nat.reduceAdd, Nat.reduceLT, ↓reduceIte]
        refine ⟨1, rfl, _, q_slT, ds, cutD ds (some 1) none, .inr ⟨rfl, rfl⟩, ?_⟩
        have et := texts_of ha
        rw [cut1]
        have hzl := texts_len ds
        generalize textsD ds = xs at et h hzl
        subst et
        rw [zipS]
        refine loop_map (fun p : Str × Str => .tuple [.str p.1, .str p.2]) (fun p => .bool (ltS p.1 p.2)) (xs.zip (xs.drop 1)) _ (by rw [List.length_map] at hz; rw [List.length_zip]; omega) (fun p _ acc k' hl hk => ?_) ?_
        · simp only [bindT, bindTs, List.length_cons, List.length_nil, List.length_set, List.set_cons_succ, List.set_cons_zero, Nat.zero_add, Nat.reduceAdd, Nat.reduceLT, true_and, wipeD]
          exact ⟨_, q_ltS, hl, hk⟩
        · have e : ((xs.zip (xs.drop 1)).map fun p => PyData.bool (ltS p.1 p.2)) = ((xs.zip (xs.drop 1)).map fun p => ltS p.1 p.2).map .bool := by rw [List.map_map]; rfl
          rw [e]
          refine ⟨_, q_all _, ?_⟩
          have e2 : ((xs.zip (xs.drop 1)).map fun p => ltS p.1 p.2).all id = risesB xs := by rw [List.all_map, ← zip_rise]; rfl
          rw [e2]
          simpa using h
  | str z => rw [if_pos (by simp only [isiD]; decide +kernel)]; exact h
  | none => rw [if_pos (by simp only [isiD]; decide +kernel)]; exact h
  | bool b => rw [if_pos (by simp only [isiD]; decide +kernel)]; exact h
  | int b => rw [if_pos (by simp only [isiD]; decide +kernel)]; exact h
  | list b => rw [if_pos (by simp only [isiD]; decide +kernel)]; exact h
  | dict b => rw [if_pos (by simp only [isiD]; decide +kernel)]; exact h
/-! the law's own -/
theorem q_eqL {xs : List D} (h : SeqAt.shaped (.list xs) = true) : sem2 .eq (.list xs) (.list []) = some (.bool xs.isEmpty) := by
  simp only [sem2]
  rw [if_pos (.inr ⟨h, by decide⟩)]
  cases xs <;> simp [PyData.eqv, PyData.eqvAll]
theorem q_neL {xs : List D} (h : SeqAt.shaped (.list xs) = true) : sem2 .ne (.list xs) (.list []) = some (.bool (!xs.isEmpty)) := by
  simp only [sem2]
  rw [if_pos (.inr ⟨h, by decide⟩)]
  cases xs <;> simp [PyData.eqv, PyData.eqvAll]
theorem shp_list : ∀ {xs : List D}, (∀ d ∈ xs, d.canLay0 = true ∧ d.depth ≤ 63) → SeqAt.shaped (.list xs) = true := by
  intro xs h
  have h1 : PyData.canLayAll0 xs = true := by
    induction xs with
    | nil => rfl
    | cons x xs ih => simp [PyData.canLayAll0, (h x (by simp)).1, ih fun d hd => h d (by simp [hd])]
  have h2 : PyData.depthAll xs ≤ 63 := by
    clear h1
    induction xs with
    | nil => simp [PyData.depthAll]
    | cons x xs ih =>
      have a := (h x (by simp)).2
      have b := ih fun d hd => h d (by simp [hd])
      simp only [PyData.depthAll]
      omega
  have h3 : PyData.depth (.list xs) ≤ 64 := by simp only [PyData.depth]; omega
  simp [SeqAt.shaped, PyData.canLay0, h1, h3]
theorem ch_ok {c : Nat} (h : c < 128) : (PyData.str ⟨#[c]⟩).canLay0 = true ∧ (PyData.str ⟨#[c]⟩).depth ≤ 63 := by
  refine ⟨?_, by simp [PyData.depth]⟩
  simp [PyData.canLay0, PyData.strOk]
  omega
theorem filt_empty (z s : Str) : (List.map (fun c => PyData.str ⟨#[c]⟩) (List.filter (fun c => !decide (c ∈ s.cps.toList)) z.cps.toList)).isEmpty = inS z s := by
  unfold inS
  induction z.cps.toList with
  | nil => rfl
  | cons c cs ih =>
    by_cases hc : c ∈ s.cps.toList
    · simp only [List.filter_cons, hc, decide_true, Bool.not_true, Bool.false_eq_true, if_false, List.all_cons, Bool.true_and]
      exact ih
    · have hc' : c ∉ s.cps := by simpa using hc
      simp [List.filter_cons, hc']
theorem call_l_is_name {n : Nat} {d : D} {k : Slot → Prop} {x : KX} (hd : plainD d) (h : k (.val (.bool (isOf d SMALL_ 8)))) : callW tab gl2 (n + 1) f__law_is_name [.val d] k x := by
  refine call_code (d := d__law_is_name) rfl rfl ?_
  show ex _ b__law_is_name [some (.val d), none] _
  simp only [b__law_is_name, sq, ex, ev, args, evA, evO, evOs, evT, evP, i_, s_, recv, true_and, List.getElem?_cons_succ, List.getElem?_cons_zero, Option.some.injEq, exists_eq_left', List.length_cons, List.length_nil, List.length_set, List.set_cons_succ, List.set_cons_zero, Nat.zero_add, Nat.reduceAdd, Nat.reduceLT, ↓reduceIte, enD]
  refine ⟨_, q_isi1 hd.1, ?_⟩
  cases d with
  | str z =>
    rw [if_neg (by simp only [isiD]; decide +kernel)]
    refine ⟨_, q_lenS, _, q_ltI, ?_⟩
    simp only [isOf] at h
    refine ite2 (fun h1 => ?_) fun h1 => ?_
    · refine ⟨_, q_ltI, ?_⟩
      have e1 : decide ((1 : Int) ≤ (z.length : Nat)) = true := by simp only [decide_eq_true_eq] at h1 ⊢; omega
      rw [e1] at h
      cases h2 : decide (((z.length : Nat) : Int) < 9) with
      | false =>
        have e2 : decide (((z.length : Nat) : Int) ≤ 8) = false := by simp only [decide_eq_false_iff_not] at h2 ⊢; omega
        rw [e2] at h
        simpa using h
      | true =>
        have e2 : decide (((z.length : Nat) : Int) ≤ 8) = true := by simp only [decide_eq_true_eq] at h2 ⊢; omega
        rw [e2] at h
        rw [if_neg (by simp)]
        simp only [evI, ev, List.getElem?_cons_zero, itemsD]
        refine ⟨_, rfl, ?_⟩
        have hz := hd.2 z rfl
        refine loop_if (fun c => .str ⟨#[c]⟩) (fun c => .str ⟨#[c]⟩) (fun c => !decide (c ∈ SMALL_.cps.toList)) z.cps.toList [] _ (by simpa using len_le hz) (fun c _ acc k' hl hk => ?_) ?_
        · simp only [bindT, bindTs, List.length_cons, List.length_nil, List.length_set, List.set_cons_succ, List.set_cons_zero, Nat.zero_add, Nat.reduceAdd, Nat.reduceLT, true_and, wipeD]
          refine ⟨_, nin1 c SMALL_, ?_⟩
          refine ite2 (fun h3 => ?_) fun h3 => ?_
          · exact ⟨hl, by rwa [if_pos h3] at hk⟩
          · rwa [if_neg h3] at hk
        · refine ⟨[], rfl, by simp, _, q_eqL (shp_list fun d hd' => ?_), ?_⟩
          · simp only [List.nil_append, List.mem_map, List.mem_filter] at hd'
            obtain ⟨c, ⟨hc, _⟩, rfl⟩ := hd'
            exact ch_ok (hz.1 c hc)
          · have e3 : (List.map (fun c => PyData.str ⟨#[c]⟩) (List.filter (fun c => !decide (c ∈ SMALL_.cps.toList)) z.cps.toList)).isEmpty = inS z SMALL_ := filt_empty z SMALL_
            rw [List.nil_append, e3]
            simpa using h
    · have e1 : decide ((1 : Int) ≤ (z.length : Nat)) = false := by simp only [decide_eq_true_eq] at h1; simp only [decide_eq_false_iff_not]; omega
      rw [e1] at h
      simpa using h
  | tuple z => rw [if_pos (by simp only [isiD]; decide +kernel)]; exact h
  | none => rw [if_pos (by simp only [isiD]; decide +kernel)]; exact h
  | bool b => rw [if_pos (by simp only [isiD]; decide +kernel)]; exact h
  | int b => rw [if_pos (by simp only [isiD]; decide +kernel)]; exact h
  | list b => rw [if_pos (by simp only [isiD]; decide +kernel)]; exact h
  | dict b => rw [if_pos (by simp only [isiD]; decide +kernel)]; exact h
theorem call_l_rises {n : Nat} {d : D} {k : Slot → Prop} {x : KX} (hd : Row d) (h : k (.val (.bool (isRising d)))) : callW tab gl2 (n + 2) f__law_rises [.val d] k x := by
  refine call_code (d := d__law_rises) rfl rfl ?_
  show ex _ b__law_rises [some (.val d), none, none] _
  simp only [b__law_rises, sq, ex, ev, args, evA, evO, evOs, evT, evP, i_, s_, recv, true_and, List.getElem?_cons_succ, List.getElem?_cons_zero, Option.some.injEq, exists_eq_left', List.length_cons, List.length_nil, List.length_set, List.set_cons_succ, List.set_cons_zero, Nat.zero_add, Nat.reduceAdd, Nat.reduceLT, ↓reduceIte, enD]
  refine ⟨_, q_isi1 hd.1, ?_⟩
  cases d with
  | tuple ds =>
    have hds := hd.2.2 ds rfl
    have hz : ds.length ≤ sizeLine := by rw [sizeLine_eq]; omega
    rw [if_neg (by simp only [isiD]; decide +kernel)]
    simp only [evI, ev, List.getElem?_cons_zero, itemsD]
    refine ⟨_, rfl, ?_⟩
    refine loop_ifD id (fun d => !isOf d SMALL_ 8) ds _ hz (fun d hm acc k' hl hk => ?_) ?_
    · simp only [bindT, bindTs, List.length_cons, List.length_nil, List.length_set, List.set_cons_succ, List.set_cons_zero, Nat.zero_add, Nat.reduceAdd, Nat.reduceLT, true_and, wipeD]
      refine call_l_is_name (hds.2 d hm).1 ⟨_, rfl, _, rfl, ?_⟩
      refine ite2 (fun h3 => ?_) fun h3 => ?_
      · exact ⟨hl, by rwa [if_pos h3] at hk⟩
      · rwa [if_neg h3] at hk
    · rw [List.map_id]
      refine ⟨[], rfl, by simp, _, q_neL (shp_list fun d hd' => ?_), ?_⟩
      · exact (hds.2 d (List.mem_filter.mp hd').1).2
      · have e2 : (ds.filter fun d => !isOf d SMALL_ 8).isEmpty = ds.all fun d => isOf d SMALL_ 8 := by
          clear h hd hds hz
          induction ds with
          | nil => rfl
          | cons d ds ih => cases hd : isOf d SMALL_ 8 <;> simp [List.filter_cons, hd] <;> simpa using ih
        rw [e2]
        simp only [isRising] at h
        cases ha : ds.all fun d => isOf d SMALL_ 8 with
        | false =>
          rw [ha] at h
          simpa using h
        | true =>
          rw [ha] at h
          rw [if_neg (by simp)]
          simp only [ex, ev, args, evA, evO, evOs, evT, evP, i_, s_, recv, true_and, List.getElem?_cons_succ, List.getElem?_cons_zero, Option.some.injEq, exists_eq_left', List.length_cons, List.length_nil, List.length_set, List.set_cons_succ, List.set_cons_zero, Nat.zero_add, Nat.reduceAdd, Nat.reduceLT, ↓reduceIte]
          refine ⟨1, rfl, _, q_slT, ds, cutD ds (some 1) none, .inr ⟨rfl, rfl⟩, ?_⟩
          have et := texts_of ha
          rw [cut1]
          have hzl := texts_len ds
          generalize textsD ds = xs at et h hzl
          subst et
          rw [zipS]
          refine loop_if (fun p : Str × Str => .tuple [.str p.1, .str p.2]) (fun _ => .int 1) (fun p => !ltS p.1 p.2) (xs.zip (xs.drop 1)) [] _ (by rw [List.length_map] at hz; simp only [List.length_nil, List.length_zip]; omega) (fun p _ acc k' hl hk => ?_) ?_
          · simp only [bindT, bindTs, List.length_cons, List.length_nil, List.length_set, List.set_cons_succ, List.set_cons_zero, Nat.zero_add, Nat.reduceAdd, Nat.reduceLT, true_and, wipeD]
            refine ⟨_, q_ltS, ?_⟩
            refine ite2 (fun h3 => ?_) fun h3 => ?_
            · exact ⟨hl, by rwa [if_pos h3] at hk⟩
            · rwa [if_neg h3] at hk
          · refine ⟨[], rfl, by simp, _, q_eqL (shp_list fun d hd' => ?_), ?_⟩
            · simp only [List.nil_append, List.mem_map] at hd'
              obtain ⟨_, _, rfl⟩ := hd'
              exact ⟨by simp [PyData.canLay0], by simp [PyData.depth]⟩
            · have e3 : (([] : List D) ++ ((xs.zip (xs.drop 1)).filter fun p => !ltS p.1 p.2).map fun _ => PyData.int 1).isEmpty = risesB xs := by
                rw [← zip_rise]
                clear h hd hds hz hzl ha e2
                induction xs.zip (xs.drop 1) with
                | nil => rfl
                | cons p ps ih => cases hp : ltS p.1 p.2 <;> simp [List.filter_cons, hp] <;> simpa using ih
              rw [e3]
              simpa using h
  | str z => rw [if_pos (by simp only [isiD]; decide +kernel)]; exact h
  | none => rw [if_pos (by simp only [isiD]; decide +kernel)]; exact h
  | bool b => rw [if_pos (by simp only [isiD]; decide +kernel)]; exact h
  | int b => rw [if_pos (by simp only [isiD]; decide +kernel)]; exact h
  | list b => rw [if_pos (by simp only [isiD]; decide +kernel)]; exact h
  | dict b => rw [if_pos (by simp only [isiD]; decide +kernel)]; exact h
end Tk
/-! K7: numbers in texts. -/
namespace Tk
open PySem PySem.Spec PyProof.Rows L2
theorem q_eqS {a b : Str} : sem2 .eq (.str a) (.str b) = some (.bool (decide (a = b))) := by
  simp only [sem2]
  rw [if_pos (.inl rfl)]
  simp only [PyData.eqv, Option.some.injEq, PyData.bool.injEq]
  first | rfl | exact beq_eq_decide a b
theorem q_neS {a b : Str} : sem2 .ne (.str a) (.str b) = some (.bool (!decide (a = b))) := by
  simp only [sem2]
  rw [if_pos (.inl rfl)]
  simp only [PyData.eqv, Option.some.injEq, PyData.bool.injEq]
  first | rfl | (congr 1; exact beq_eq_decide a b)
def h48 (z : Str) : Bool := match z.cps.toList with
  | c :: _ => decide ((⟨#[c]⟩ : Str) = "0")
  | [] => false
def numOk (z : Str) : Bool := isOf (.str z) FIG_ 6 && !(h48 z && !decide (z = "0"))
def numD : D → D
  | .str z => if numOk z = true then .int ((NumText.digitsVal z.cps.toList : Nat) : Int) else .none
  | _ => .none
theorem fig_mem : ∀ c ∈ FIG_.cps.toList, 48 ≤ c ∧ c ≤ 57 := by decide +kernel
theorem fig_of {z : Str} (h : inS z FIG_ = true) : ∀ c ∈ z.cps.toList, 48 ≤ c ∧ c ≤ 57 := fun c hc => fig_mem c (by
  have := List.all_eq_true.mp h c hc
  exact of_decide_eq_true this)
theorem isOf_parts {z s : Str} {m : Int} (h : isOf (.str z) s m = true) : 1 ≤ z.length ∧ (z.length : Int) ≤ m ∧ inS z s = true := by
  simp only [isOf, Bool.and_eq_true, decide_eq_true_eq] at h
  exact ⟨by omega, h.2.1, h.2.2⟩
theorem q_int {z : Str} (h : isOf (.str z) FIG_ 6 = true) : sem1 .int (.str z) = some (.int ((NumText.digitsVal z.cps.toList : Nat) : Int)) := by
  obtain ⟨h1, h2, h3⟩ := isOf_parts h
  have hl : z.cps.toList.length = z.length := Array.length_toList
  simp only [sem1]
  rw [if_pos (by omega), intText_digits (fig_of h3) (fun e => by rw [e] at hl; simp at hl; omega) (by omega)]
  rfl
theorem call_number_in {n : Nat} {d : D} {k : Slot → Prop} {x : KX} (hd : plainD d) (h : k (.val (numD d))) : callW tab gl2 (n + 2) f_number_in [.val d] k x := by
  refine call_code (d := d_number_in) rfl rfl ?_
  show ex _ b_number_in [some (.val d)] _
  simp only [b_number_in, sq, ex, ev, args, evA, evO, evOs, evT, evP, i_, s_, recv, true_and, List.getElem?_cons_succ, List.getElem?_cons_zero, Option.some.injEq, exists_eq_left', List.length_cons, List.length_nil, List.length_set, List.set_cons_succ, List.set_cons_zero, Nat.zero_add, Nat.reduceAdd, Nat.reduceLT, ↓reduceIte, enD]
  refine ⟨.str FIG_, rfl, rfl, .int 6, rfl, rfl, ?_⟩
  refine call_is_of hd ⟨_, rfl, _, rfl, ?_⟩
  cases hi : isOf d FIG_ 6 with
  | false =>
    rw [if_pos (by simp)]
    cases d <;> first | exact h | skip
    simpa [numD, numOk, hi] using h
  | true =>
    rw [if_neg (by simp)]
    cases d <;> first | (simp [isOf] at hi; done) | skip
    rename_i z
    obtain ⟨h1, h2, h3⟩ := isOf_parts hi
    have hl : z.cps.toList.length = z.length := Array.length_toList
    simp only [numD, numOk, hi, Bool.true_and] at h
    have hi' := q_int hi
    cases hc : z.cps.toList with
    | nil => rw [hc] at hl; simp at hl; omega
    | cons c cs =>
      have e48 : h48 z = decide ((⟨#[c]⟩ : Str) = "0") := by unfold h48; rw [hc]
      rw [e48] at h
      have ix : sem2 .ix (.str z) (.int 0) = some (.str ⟨#[c]⟩) := by
        simp only [sem2]
        rw [hc, at_0]; rfl
      refine ⟨_, ix, _, q_eqS, ?_⟩
      refine ite2 (fun g1 => ?_) fun g1 => ?_
      · refine ⟨_, q_neS, ?_⟩
        rw [g1] at h
        refine ite2 (fun g2 => ?_) fun g2 => ?_
        · have : (z = "0") = False := by simpa using g2
          rw [if_neg (by simp [this])] at h
          exact h
        · have : (z = "0") = True := by simpa using g2
          rw [if_pos (by simp [this])] at h
          exact ⟨_, hi', h⟩
      · have g1 : decide ((⟨#[c]⟩ : Str) = "0") = false := by simpa using g1
        rw [g1] at h
        rw [if_neg (by simp)]
        exact ⟨_, hi', by simpa using h⟩
/-! the law's own -/
theorem occ_fig : ∀ c ∈ FIG_.cps.toList, (Builtin.Str.occurrences FIG_ ⟨#[c]⟩ 0 FIG_.length 1).head? = some (c - 48) := by decide +kernel
theorem ix_fig (c : Nat) (h : c ∈ FIG_.cps.toList) : sem2 .indexS (.str FIG_) (.str ⟨#[c]⟩) = some (.int (((c - 48 : Nat) : Nat) : Int)) := by
  simp only [sem2, occ_fig c h, Option.map_some]
def dv (v : Nat) : List Nat → Nat
  | [] => v
  | c :: cs => dv (v * 10 + (c - 48)) cs
theorem dv_eq : ∀ (cs : List Nat) (v : Nat), dv v cs = cs.foldl (fun acc c => acc * 10 + (c - 48)) v
  | [], _ => rfl
  | c :: cs, v => by rw [List.foldl_cons, ← dv_eq cs]; rfl
theorem dv_digits (cs : List Nat) : dv 0 cs = NumText.digitsVal cs := dv_eq cs 0
def numB : CS := sq [.ite (.op2 .nin (.var 2) (s_ "0123456789")) (sq [.ret (.const .none)])
      (.nop),
    .asg (.name 1) (.op2 .add (.op2 .mul (i_ 10) (.var 1)) (.op2 .indexS (s_ "0123456789") (.var 2)))]
theorem num_body {C : Cfg} {z : Str} {E : En} {c v : Nat} {s2 : Option Slot} (h1 : c ∈ FIG_.cps.toList → E.nx [some (.val (.str z)), some (.val (.int ((v * 10 + (c - 48) : Nat) : Int))), some (.val (.str ⟨#[c]⟩))]) (h2 : c ∉ FIG_.cps.toList → E.rt (.val .none)) :
    bindT (.name 2) (.str ⟨#[c]⟩) [some (.val (.str z)), some (.val (.int ((v : Nat) : Int))), s2] fun δ1 => ex C numB δ1 E := by
  simp only [bindT, bindTs, List.length_cons, List.length_nil, List.length_set, List.set_cons_succ, List.set_cons_zero, Nat.zero_add, Nat.reduceAdd, Nat.reduceLT, true_and, numB, sq, ex, ev, args, evA, evO, evOs, evT, evP, i_, s_, recv, true_and, List.getElem?_cons_succ, List.getElem?_cons_zero, Option.some.injEq, exists_eq_left', List.length_cons, List.length_nil, List.length_set, List.set_cons_succ, List.set_cons_zero, Nat.zero_add, Nat.reduceAdd, Nat.reduceLT, ↓reduceIte]
  refine ⟨_, nin1 c FIG_, ?_⟩
  by_cases hc : c ∈ FIG_.cps.toList
  · rw [if_neg (by simp [hc])]
    refine ⟨_, s_mulL (by decide), _, ix_fig c hc, _, q_addI, ?_⟩
    have e : (10 * (v : Int) + (((c - 48 : Nat) : Nat) : Int)) = ((v * 10 + (c - 48) : Nat) : Int) := by omega
    rw [e]
    exact h1 hc
  · rw [if_pos (by simp [hc])]
    exact h2 hc
theorem num_loop {C : Cfg} {z : Str} {E : En} : ∀ (cs : List Nat) (v : Nat) (s2 : Option Slot), (cs.all (fun c => decide (c ∈ FIG_.cps.toList)) = true → ∀ s2, E.nx [some (.val (.str z)), some (.val (.int ((dv v cs : Nat) : Int))), s2]) →
    (cs.all (fun c => decide (c ∈ FIG_.cps.toList)) = false → E.rt (.val .none)) →
    loopS (fun y δ' E' => bindT (.name 2) y δ' fun δ1 => ex C numB δ1 E') (cs.map fun c => .str ⟨#[c]⟩) [some (.val (.str z)), some (.val (.int ((v : Nat) : Int))), s2] E
  | [], v, s2, h1, h2 => h1 rfl s2
  | c :: cs, v, s2, h1, h2 => by
    simp only [List.map_cons, loopS]
    refine num_body (fun hc => ?_) fun hc => ?_
    · refine num_loop cs _ _ (fun h s2 => ?_) fun h => ?_
      · exact h1 (by simp only [List.all_cons, hc, decide_true, Bool.true_and]; exact h) s2
      · exact h2 (by simp only [List.all_cons, hc, decide_true, Bool.true_and]; exact h)
    · exact h2 (by simp only [List.all_cons, hc, decide_false, Bool.false_and])
theorem dv_lt : ∀ (cs : List Nat) (v : Nat), (∀ c ∈ cs, 48 ≤ c ∧ c ≤ 57) → dv v cs < (v + 1) * 10 ^ cs.length
  | [], v, _ => by
    show v < (v + 1) * 1
    omega
  | c :: cs, v, h => by
    have h0 := h c (by simp)
    have h1 := dv_lt cs (v * 10 + (c - 48)) fun d hd => h d (by simp [hd])
    have e : v * 10 + (c - 48) + 1 ≤ (v + 1) * 10 := by omega
    have h2 := Nat.lt_of_lt_of_le h1 (Nat.mul_le_mul_right (10 ^ cs.length) e)
    have e2 : (v + 1) * 10 ^ (cs.length + 1) = (v + 1) * 10 * 10 ^ cs.length := by
      rw [Nat.pow_succ, Nat.mul_comm (10 ^ cs.length) 10, Nat.mul_assoc]
    show dv (v * 10 + (c - 48)) cs < (v + 1) * 10 ^ (cs.length + 1)
    rw [e2]
    exact h2
theorem ch_back : ∀ c, 48 ≤ c → c ≤ 57 → (Char.ofNat c).toNat = c := by
  intro c h1 h2
  have : c < 58 := by omega
  revert h1
  revert c
  decide
theorem zero_tl : ("0" : Str).cps.toList = [48] := by decide +kernel
theorem one48 {c : Nat} : ((⟨#[c]⟩ : Str) = "0") ↔ c = 48 := by
  constructor
  · intro e
    have := congrArg (fun s : Str => s.cps.toList) e
    simp only [zero_tl] at this
    simpa using this
  · rintro rfl
    exact str_ext (by rw [zero_tl])
theorem canon {z : Str} (h : isOf (.str z) FIG_ 6 = true) : (Str.ofString (toString ((NumText.digitsVal z.cps.toList : Nat) : Int)) = z) ↔ ¬ (h48 z = true ∧ z ≠ "0") := by
  obtain ⟨h1, h2, h3⟩ := isOf_parts h
  have hl : z.cps.toList.length = z.length := Array.length_toList
  have hd := fig_of h3
  have tl : (Str.ofString (toString ((NumText.digitsVal z.cps.toList : Nat) : Int))).cps.toList = TL.numL (NumText.digitsVal z.cps.toList) := TL.tl_num _
  have key : (Str.ofString (toString ((NumText.digitsVal z.cps.toList : Nat) : Int)) = z) ↔ TL.numL (NumText.digitsVal z.cps.toList) = z.cps.toList := by
    constructor
    · intro e
      rw [← tl, e]
    · intro e
      exact str_ext (by rw [tl, e])
  rw [key]
  cases hc : z.cps.toList with
  | nil => rw [hc] at hl; simp at hl; omega
  | cons c cs =>
    rw [hc] at hd hl
    have e48 : h48 z = decide ((⟨#[c]⟩ : Str) = "0") := by unfold h48; rw [hc]
    have ez : (z = "0") ↔ c = 48 ∧ cs = [] := by
      constructor
      · intro e
        have := congrArg (fun s : Str => s.cps.toList) e
        simp only [zero_tl, hc] at this
        simpa using this
      · rintro ⟨rfl, rfl⟩
        exact str_ext (by rw [zero_tl, hc])
    rw [e48, decide_eq_true_eq, one48, ne_eq, ez]
    constructor
    · rintro e ⟨rfl, h5⟩
      have hne : cs ≠ [] := fun z => h5 ⟨rfl, z⟩
      rw [NumText.digitsVal_zero] at e
      have hlt := dv_lt cs 0 fun d hd' => hd d (by simp [hd'])
      rw [dv_digits] at hlt
      have := TL.numL_len (n := NumText.digitsVal cs) (k := cs.length) (List.length_pos_iff.mpr hne) (by simpa using hlt)
      rw [e, List.length_cons] at this
      omega
    · intro hn
      have hh : cs.length = 0 ∨ ∃ c' r, c :: cs = c' :: r ∧ 49 ≤ c' := by
        by_cases h6 : cs = []
        · exact .inl (by simp [h6])
        · refine .inr ⟨c, cs, rfl, ?_⟩
          have := hd c (by simp)
          have : c ≠ 48 := fun e => hn ⟨e, fun z => h6 z.2⟩
          omega
      have e := NumText.toDigits_digitsVal cs.length (c :: cs) rfl hd hh
      unfold TL.numL
      rw [e, List.map_map]
      conv => rhs; rw [← List.map_id (c :: cs)]
      apply List.map_congr_left
      intro d hd'
      exact ch_back d (hd d hd').1 (hd d hd').2
theorem q_str {v : Nat} (h : v < 10 ^ 6) : sem1 .str (.int ((v : Nat) : Int)) = some (.str (Str.ofString (toString ((v : Nat) : Int)))) := by
  simp only [sem1]
  have h1 : (((v : Nat) : Int)).natAbs.log2 < 1920 := by
    rw [Int.natAbs_natCast]
    by_cases hz : v = 0
    · subst hz; decide
    · have : v.log2 < 20 := (Nat.log2_lt hz).mpr (Nat.lt_of_lt_of_le h (by decide))
      omega
  have h2 : (Str.ofString (toString ((v : Nat) : Int))).length ≤ sizeLine := by
    have e : (Str.ofString (toString ((v : Nat) : Int))).cps.toList = TL.numL v := TL.tl_num v
    have hl : (Str.ofString (toString ((v : Nat) : Int))).cps.toList.length = (Str.ofString (toString ((v : Nat) : Int))).length := Array.length_toList
    have := TL.numL_len (n := v) (k := 6) (by decide) h
    rw [← hl, e, sizeLine_eq]
    omega
  rw [if_pos ⟨h1, h2⟩]
theorem numOk_iff {z : Str} (h : isOf (.str z) FIG_ 6 = true) : numOk z = decide (Str.ofString (toString ((NumText.digitsVal z.cps.toList : Nat) : Int)) = z) := by
  have c := canon h
  unfold numOk
  rw [h, Bool.true_and]
  by_cases h1 : h48 z = true ∧ z ≠ "0"
  · have e1 : decide (Str.ofString (toString ((NumText.digitsVal z.cps.toList : Nat) : Int)) = z) = false := decide_eq_false fun e => (c.mp e) h1
    rw [e1]
    simp [h1.1, h1.2]
  · have e1 : decide (Str.ofString (toString ((NumText.digitsVal z.cps.toList : Nat) : Int)) = z) = true := decide_eq_true (c.mpr h1)
    rw [e1]
    cases h2 : h48 z with
    | false => rfl
    | true =>
      have : z = "0" := Classical.byContradiction fun e => h1 ⟨h2, e⟩
      simp [this]
def b_num : CS := sq [.ite (.or_ (.not_ (.op1 (.isi ["str"]) (.var 0))) (.not_ (.chain .lt .lt (i_ 0) (.op1 .len (.var 0)) (i_ 7)))) (sq [.ret (.const .none)])
    (.nop),
  .asg (.name 1) (i_ 0),
  .for_ (.name 2) (.iter (.var 0)) numB,
  .ret (.ifx (.op2 .eq (.op1 .str (.var 1)) (.var 0)) (.var 1) (.const .none))]
theorem call_l_number {n : Nat} {d : D} {k : Slot → Prop} {x : KX} (hd : plainD d) (h : k (.val (numD d))) : callW tab gl2 (n + 1) f__law_number [.val d] k x := by
  refine call_code (d := d__law_number) rfl rfl ?_
  show ex _ b_num [some (.val d), none, none] _
  simp only [b_num, sq, ex, ev, args, evA, evO, evOs, evT, evP, i_, s_, recv, true_and, List.getElem?_cons_succ, List.getElem?_cons_zero, Option.some.injEq, exists_eq_left', List.length_cons, List.length_nil, List.length_set, List.set_cons_succ, List.set_cons_zero, Nat.zero_add, Nat.reduceAdd, Nat.reduceLT, ↓reduceIte, enD]
  refine ⟨_, q_isi1 hd.1, ?_⟩
  cases d with
  | str z =>
    rw [if_neg (by simp only [isiD]; decide +kernel)]
    refine ⟨_, q_lenS, _, q_ltI, ?_⟩
    refine ite2 (fun h1 => ?_) fun h1 => ?_
    · refine ⟨_, q_ltI, ?_⟩
      have e1 : decide ((1 : Int) ≤ (z.length : Nat)) = true := by simp only [decide_eq_true_eq] at h1 ⊢; omega
      cases h2 : decide (((z.length : Nat) : Int) < 7) with
      | false =>
        have e2 : decide (((z.length : Nat) : Int) ≤ 6) = false := by simp only [decide_eq_false_iff_not] at h2 ⊢; omega
        have e3 : isOf (.str z) FIG_ 6 = false := by simp only [isOf, e2, Bool.false_and, Bool.and_false]
        have e4 : numOk z = false := by simp [numOk, e3]
        simp only [numD, e4] at h
        simpa using h
      | true =>
        have e2 : decide (((z.length : Nat) : Int) ≤ 6) = true := by simp only [decide_eq_true_eq] at h2 ⊢; omega
        have e3 : isOf (.str z) FIG_ 6 = inS z FIG_ := by simp only [isOf, e1, e2, Bool.true_and]
        rw [if_neg (by simp)]
        show _ ∧ evI _ false (.iter (.var 0)) [some (.val (.str z)), some (.val (.int 0)), none] _ _
        refine ⟨by simp, ?_⟩
        simp only [evI, ev, List.getElem?_cons_zero, itemsD]
        refine ⟨_, rfl, ?_⟩
        refine num_loop z.cps.toList 0 none (fun ha s2 => ?_) fun ha => ?_
        · have ho : isOf (.str z) FIG_ 6 = true := by rw [e3]; exact ha
          have hlt := dv_lt z.cps.toList 0 (fig_of ha)
          have hle : z.cps.toList.length ≤ 6 := by
            have := (isOf_parts ho).2.1
            have hl : z.cps.toList.length = z.length := Array.length_toList
            omega
          have h6 : dv 0 z.cps.toList < 10 ^ 6 := by
            refine Nat.lt_of_lt_of_le hlt ?_
            rw [Nat.zero_add, Nat.one_mul]
            exact Nat.pow_le_pow_right (by decide) hle
          refine ⟨_, q_str h6, _, q_eqS, ?_⟩
          simp only [numD, numOk_iff ho] at h
          rw [dv_digits]
          refine ite2 (fun g => ?_) fun g => ?_
          · rw [if_pos g] at h
            exact h
          · rw [if_neg g] at h
            exact h
        · have e4 : numOk z = false := by
            have : inS z FIG_ = false := ha
            simp [numOk, e3, this]
          simp only [numD, e4] at h
          simpa using h
    · have e1 : decide ((1 : Int) ≤ (z.length : Nat)) = false := by simp only [decide_eq_true_eq] at h1; simp only [decide_eq_false_iff_not]; omega
      have e3 : isOf (.str z) FIG_ 6 = false := by simp only [isOf, e1, Bool.false_and]
      have e4 : numOk z = false := by simp [numOk, e3]
      simp only [numD, e4] at h
      simpa using h
  | tuple z => rw [if_pos (by simp only [isiD]; decide +kernel)]; exact h
  | none => rw [if_pos (by simp only [isiD]; decide +kernel)]; exact h
  | bool b => rw [if_pos (by simp only [isiD]; decide +kernel)]; exact h
  | int b => rw [if_pos (by simp only [isiD]; decide +kernel)]; exact h
  | list b => rw [if_pos (by simp only [isiD]; decide +kernel)]; exact h
  | dict b => rw [if_pos (by simp only [isiD]; decide +kernel)]; exact h
end Tk
/-! K8: drawn texts. -/
namespace Tk
open PySem PySem.Spec PyProof.Rows L2
theorem draw_call {m : Nat} {b : Int} {k : Slot → Prop} {x : KX} (h1 : 0 < b) (h2 : b < 1073741824) (h : ∀ r, 0 ≤ r → r < b → k (.val (.int r))) : callW tab gl2 (m + 2) f__law_draw [.st, .val (.int b)] k x :=
  ⟨by omega, rfl, b, rfl, h1, h2, h⟩
theorem mem_joinL {s : List Nat} {c : Nat} : ∀ {ps : List (List Nat)}, c ∈ TL.joinL s ps → c ∈ s ∨ ∃ p ∈ ps, c ∈ p
  | [], h => by simp [TL.joinL] at h
  | [p], h => .inr ⟨p, by simp, by simpa [TL.joinL] using h⟩
  | p :: q :: r, h => by
    simp only [TL.joinL, List.mem_append] at h
    rcases h with h | h | h
    · exact .inr ⟨p, by simp, h⟩
    · exact .inl h
    · rcases mem_joinL (ps := q :: r) h with h | ⟨y, hy, h⟩
      · exact .inl h
      · exact .inr ⟨y, by simp at hy ⊢; exact .inr hy, h⟩
theorem sum_le {m : Nat} : ∀ {ys : List Str}, (∀ y ∈ ys, y.length ≤ m) → (ys.map (·.length)).sum ≤ ys.length * m
  | [], _ => by simp
  | y :: ys, h => by
    have h1 := h y (by simp)
    have h2 := sum_le (m := m) (ys := ys) fun z hz => h z (by simp [hz])
    simp only [List.map_cons, List.sum_cons, List.length_cons, Nat.succ_mul]
    omega
def okL (n : Nat) (z : Str) : Prop := (∀ c ∈ z.cps.toList, c < 128) ∧ z.length ≤ n
theorem okL.s {n : Nat} {z : Str} (h : okL n z) (hn : n ≤ 1000) : okS z := ⟨h.1, Nat.le_trans h.2 hn⟩
theorem okL.mono {n m : Nat} {z : Str} (h : okL n z) (hn : n ≤ m) : okL m z := ⟨h.1, Nat.le_trans h.2 hn⟩
theorem okL.add {n m : Nat} {y z : Str} (h : okL n y) (h' : okL m z) : okL (n + m) (y ++ z) := by
  have e : (y ++ z).cps.toList = y.cps.toList ++ z.cps.toList := by
    show (y.cps ++ z.cps).toList = _
    simp
  refine ⟨fun c hc => ?_, ?_⟩
  · rw [e, List.mem_append] at hc
    exact hc.elim (h.1 c) (h'.1 c)
  · show (y.cps ++ z.cps).size ≤ _
    rw [Array.size_append]
    exact Nat.add_le_add h.2 h'.2
theorem join_sem {ys : List Str} {N : Nat} (hn : ys.length ≤ N) (hN : N ≤ 100) (hy : ∀ y ∈ ys, okL 1 y) : ∃ z, sem2 .join (.str "") (.list (ys.map .str)) = some (.str z) ∧ okL N z := by
  have h1 : (ys.map (·.length)).sum ≤ ys.length * 1 := sum_le fun y h => (hy y h).2
  have ha : ("" : Str).length = 0 := by decide +kernel
  have h4 : (Txt.join "" ys).length ≤ (ys.map (·.length)).sum + ys.length * ("" : Str).length := by
    show (Builtin.Str.glued "" ys).length ≤ _
    rw [StrLaws.glued_eq_join]
    exact StrLaws.join_length_le "" ys
  rw [ha] at h4
  refine ⟨Txt.join "" ys, ?_, fun c hc => ?_, by omega⟩
  · simp only [sem2, strsD_map, Option.bind_some]
    rw [if_pos ⟨by rw [ha]; omega, by rw [sizeLine_eq]; omega⟩]
  · have e1 : ys = (ys.map fun y => y.cps.toList).map SX.S := by
      rw [List.map_map]
      conv => lhs; rw [← List.map_id ys]
      exact List.map_congr_left fun y _ => (SX.S_tl y).symm
    have e2 : ("" : Str) = SX.S ("" : Str).cps.toList := (SX.S_tl _).symm
    rw [e1, e2, SX.join_S] at hc
    have hc' : c ∈ TL.joinL ("" : Str).cps.toList (ys.map fun y => y.cps.toList) := hc
    rcases mem_joinL hc' with h | ⟨p, hp, h⟩
    · have : ("" : Str).cps.toList = [] := by decide +kernel
      rw [this] at h; simp at h
    · obtain ⟨y, hy', rfl⟩ := List.mem_map.mp hp
      exact (hy y hy').1 c h
theorem ix_sem {x : Str} {r : Int} (hx : ∀ c ∈ x.cps.toList, c < 128) (h0 : 0 ≤ r) (h1 : r < x.length) : ∃ z, sem2 .ix (.str x) (.int r) = some (.str z) ∧ okL 1 z := by
  have hl : x.cps.toList.length = x.length := Array.length_toList
  obtain ⟨c, e, hc⟩ := at_nat (xs := x.cps.toList) (i := r) h0 (by omega)
  refine ⟨⟨#[c]⟩, ?_, fun d hd => ?_, by show (#[c] : Array Nat).size ≤ 1; simp⟩
  · simp only [sem2, e, Option.map_some]
  · have : d = c := by simpa using hd
    subst this
    exact hx d hc
theorem strs_of : ∀ {ds : List D}, (∀ d ∈ ds, ∃ y, d = .str y ∧ okL 1 y) → ∃ ys : List Str, ds = ys.map .str ∧ ∀ y ∈ ys, okL 1 y
  | [], _ => ⟨[], rfl, by simp⟩
  | d :: ds, hd => by
    obtain ⟨y, rfl, hy⟩ := hd d (by simp)
    obtain ⟨ys, rfl, hys⟩ := strs_of (ds := ds) fun e he => hd e (by simp [he])
    exact ⟨y :: ys, rfl, by simpa using ⟨hy, hys⟩⟩
theorem call_any {m : Nat} {s : Str} {t : Int} {k : Slot → Prop} {x : KX} (hs : 1 ≤ s.length) (hs2 : s.length < 1000) (hc : ∀ c ∈ s.cps.toList, c < 128) (ht : 0 ≤ t) (ht2 : t ≤ 100)
    (h : ∀ z : Str, okL t.toNat z → k (.val (.str z))) : callW tab gl2 (m + 3) f__law_any [.st, .val (.str s), .val (.int t)] k x := by
  refine call_code (d := d__law_any) rfl rfl ?_
  show ex _ b__law_any [some .st, some (.val (.str s)), some (.val (.int t)), none] _
  simp only [b__law_any, sq, ex, ev, args, evA, evO, evOs, evT, evP, i_, s_, recv, true_and, List.getElem?_cons_succ, List.getElem?_cons_zero, Option.some.injEq, exists_eq_left', List.length_cons, List.length_nil, List.length_set, List.set_cons_succ, List.set_cons_zero, Nat.zero_add, Nat.reduceAdd, Nat.reduceLT, ↓reduceIte, enD, evI]
  refine ⟨_, q_addI, draw_call (by omega) (by omega) fun r h0 h1 => ⟨_, rfl, r, rfl, ⟨by omega, by omega⟩, ?_⟩⟩
  have hr : (rangeD 0 r).length = r.toNat := by
    have := range_len r.toNat
    rw [Int.toNat_of_nonneg h0] at this
    exact this
  refine loop_nd (fun d => ∃ y, d = .str y ∧ okL 1 y) _ _ _ (by rw [hr, sizeLine_eq]; simp; omega) (fun y _ acc k' hl hk => ?_) fun ds hd hp => ?_
  · simp only [bindT, bindTs, List.length_cons, List.length_nil, List.length_set, List.set_cons_succ, List.set_cons_zero, Nat.zero_add, Nat.reduceAdd, Nat.reduceLT, true_and, wipeD]
    refine ⟨_, q_lenS, draw_call (by omega) (by omega) fun r2 g0 g1 => ⟨_, rfl, ?_⟩⟩
    obtain ⟨z, e, hz⟩ := ix_sem hc g0 g1
    exact ⟨_, e, hl, hk _ ⟨z, rfl, hz⟩⟩
  · obtain ⟨ys, rfl, hy⟩ := strs_of hp
    obtain ⟨z, e, hz⟩ := join_sem (ys := ys) (N := t.toNat) (by rw [List.length_map, hr] at hd; omega) (by omega) hy
    exact ⟨_, e, h z hz⟩
end Tk
/-! K9: texts and rows as they are drawn. -/
namespace Tk
open PySem PySem.Spec PyProof.Rows L2
def sg1 : Str := " !\"#$&'()*+,-./0123456789:;<=>?@ABCDEFGHIJKLMNOPQRSTUVWXYZ[\\]^_"
def sg2 : Str := "`abcdefghijklmnopqrstuvwxyz{|}~\n"
theorem sg_len : sg1.length + sg2.length ≤ 200 ∧ (sg1 ++ sg2).length = 95 := by decide +kernel
theorem sg_ok : ∀ c ∈ (sg1 ++ sg2).cps.toList, c < 128 := by decide +kernel
theorem call_signs {n : Nat} {k : Slot → Prop} {x : KX} (h : k (.val (.str (sg1 ++ sg2)))) : callW tab gl2 (n + 1) f__law_signs [] k x := by
  refine call_code (d := d__law_signs) rfl rfl ?_
  show ex _ b__law_signs [none] _
  simp only [b__law_signs, sq, ex, ev, args, evA, evO, evOs, evT, evP, i_, s_, recv, true_and, List.getElem?_cons_succ, List.getElem?_cons_zero, Option.some.injEq, exists_eq_left', List.length_cons, List.length_nil, List.length_set, List.set_cons_succ, List.set_cons_zero, Nat.zero_add, Nat.reduceAdd, Nat.reduceLT, ↓reduceIte, bindT, bindTs, List.length_cons, List.length_nil, List.length_set, List.set_cons_succ, List.set_cons_zero, Nat.zero_add, Nat.reduceAdd, Nat.reduceLT, true_and, enD]
  refine ⟨_, ?_, h⟩
  show sem2 .add (.str sg1) (.str sg2) = _
  rw [q_addS, if_pos (by have := sg_len.1; rw [sizeLine_eq]; omega)]
theorem cut_ok {z : Str} {n : Nat} (h : okL n z) (l u : Option Int) : okL n (cutS z l u) := by
  refine ⟨fun c hc => h.1 c ?_, Nat.le_trans (cutS_length z l u) h.2⟩
  have : c ∈ (z.cps.toList.drop (HT.sIx z.length 0 l)).take (HT.sIx z.length z.length u - HT.sIx z.length 0 l) := hc
  exact List.mem_of_mem_drop (List.mem_of_mem_take this)
theorem small_ok : ∀ c ∈ SMALL_.cps.toList, c < 128 := by decide +kernel
theorem fig_ok : ∀ c ∈ FIG_.cps.toList, c < 128 := by decide +kernel
def oddT : List Str := ["0", "00", "-0", "-1", "+1", "01", "000001", "1000000", "999999", ""]
theorem oddT_ok : ∀ z ∈ oddT, (∀ c ∈ z.cps.toList, c < 128) ∧ z.length ≤ 8 := by decide +kernel
def textB : CS := sq [.asg (.name 1) (.ifx (.op2 .lt (.var 2) (i_ 5)) (.var 6) (.var 7)),
  .ret (.op2 .add (.op2 .add (.slc (.var 1) .nopart (.cons (.var 3) .nil)) (.op2 .ix (.call f__law_signs (args [])) (.var 5))) (.slc (.var 1) (.cons (.op2 .add (.var 3) (.var 4)) .nil) .nopart))]
theorem text_end {m : Nat} {a b : Str} {w at_ far sg : Int} {k : Slot → Prop} {x : KX} (ha : okL 10 a) (hb : okL 10 b) (g0 : 0 ≤ sg) (g1 : sg < 95) (h : ∀ z : Str, okS z → k (.val (.str z))) :
    ex ⟨callW tab gl2 (m + 3), gl2⟩ textB [some .st, none, some (.val (.int w)), some (.val (.int at_)), some (.val (.int far)), some (.val (.int sg)), some (.val (.str a)), some (.val (.str b))] (enD k x) := by
  have main : ∀ c : Str, okL 10 c → ∀ z, okL 1 z → ∃ r, sem2 .add (.str (cutS c none (some at_) ++ z)) (.str (cutS c (some (at_ + far)) none)) = some (.str r) ∧ okS r := fun c hc z hz => by
    have h1 := cut_ok hc none (some at_)
    have h2 := cut_ok hc (some (at_ + far)) none
    have h3 := h1.add hz
    refine ⟨_, ?_, (h3.add h2).s (by omega)⟩
    rw [q_addS, if_pos (by have := h3.2; have := h2.2; rw [sizeLine_eq]; omega)]
  simp only [textB, sq, ex, ev, args, evA, evO, evOs, evT, evP, i_, s_, recv, true_and, List.getElem?_cons_succ, List.getElem?_cons_zero, Option.some.injEq, exists_eq_left', List.length_cons, List.length_nil, List.length_set, List.set_cons_succ, List.set_cons_zero, Nat.zero_add, Nat.reduceAdd, Nat.reduceLT, ↓reduceIte, bindT, bindTs, List.length_cons, List.length_nil, List.length_set, List.set_cons_succ, List.set_cons_zero, Nat.zero_add, Nat.reduceAdd, Nat.reduceLT, true_and, enD]
  refine ⟨_, q_ltI, ?_⟩
  obtain ⟨zs, ez, hz⟩ := ix_sem sg_ok g0 (by rw [sg_len.2]; exact g1)
  have fin : ∀ c : Str, okL 10 c → ∃ i, PyData.int at_ = PyData.int i ∧ ∃ r, semSl (PyData.str c) none (some i) = some r ∧ callW tab gl2 (m + 3) f__law_signs [] (fun s => ∃ d, slotD s = some d ∧ ∃ r_1, sem2 Op2.ix d (PyData.int sg) = some r_1 ∧ ∃ r_2, sem2 Op2.add r r_1 = some r_2 ∧
      ∃ r, sem2 Op2.add (PyData.int at_) (PyData.int far) = some r ∧ ∃ i, r = PyData.int i ∧ ∃ r, semSl (PyData.str c) (some i) none = some r ∧ ∃ r_3, sem2 Op2.add r_2 r = some r_3 ∧ k (Slot.val r_3)) x := fun c hc => by
    refine ⟨_, rfl, _, rfl, call_signs ⟨_, rfl, _, ez, ?_⟩⟩
    obtain ⟨r, er, hr⟩ := main c hc zs hz
    refine ⟨_, by rw [q_addS, if_pos (by have := (cut_ok hc none (some at_)).2; have := hz.2; rw [sizeLine_eq]; omega)], _, q_addI, _, rfl, _, rfl, _, er, h r hr⟩
  refine ite2 (fun _ => fin a ha) fun _ => fin b hb
theorem call_text {m : Nat} {k : Slot → Prop} {x : KX} (h : ∀ z : Str, okS z → k (.val (.str z))) : callW tab gl2 (m + 4) f__law_text [.st] k x := by
  refine call_code (d := d__law_text) rfl rfl ?_
  show ex _ (.seq _ (.seq _ (.seq _ (.seq _ (.seq _ textB))))) [some .st, none, none, none, none, none, none, none] _
  simp only [ex, ev, args, evA, evO, evOs, evT, evP, i_, s_, recv, true_and, List.getElem?_cons_succ, List.getElem?_cons_zero, Option.some.injEq, exists_eq_left', List.length_cons, List.length_nil, List.length_set, List.set_cons_succ, List.set_cons_zero, Nat.zero_add, Nat.reduceAdd, Nat.reduceLT, ↓reduceIte, enD]
  refine draw_call (by decide) (by decide) fun w w0 w1 => draw_call (by decide) (by decide) fun at_ a0 a1 => draw_call (by decide) (by decide) fun far f0 f1 => draw_call (by decide) (by decide) fun sg s0 s1 => ⟨_, rfl, ?_⟩
  simp only [ex, ev, args, evA, evO, evOs, evT, evP, i_, s_, recv, true_and, List.getElem?_cons_succ, List.getElem?_cons_zero, Option.some.injEq, exists_eq_left', List.length_cons, List.length_nil, List.length_set, List.set_cons_succ, List.set_cons_zero, Nat.zero_add, Nat.reduceAdd, Nat.reduceLT, ↓reduceIte]
  refine call_any (by decide +kernel) (by decide +kernel) small_ok (by decide) (by decide) fun a ha => ?_
  refine call_any (by decide +kernel) (by decide +kernel) fig_ok (by decide) (by decide) fun b hb => ⟨_, rfl, ?_⟩
  simp only [ex, ev, args, evA, evO, evOs, evT, evP, i_, s_, recv, true_and, List.getElem?_cons_succ, List.getElem?_cons_zero, Option.some.injEq, exists_eq_left', List.length_cons, List.length_nil, List.length_set, List.set_cons_succ, List.set_cons_zero, Nat.zero_add, Nat.reduceAdd, Nat.reduceLT, ↓reduceIte]
  have ha' : okL 10 a := ha
  have hb' : okL 10 b := hb.mono (by decide)
  refine ⟨_, q_eqI, ?_⟩
  refine ite2 (fun _ => ?_) fun _ => ?_
  · simp only [sq, ex, ev, args, evA, evO, evOs, evT, evP, i_, s_, recv, true_and, List.getElem?_cons_succ, List.getElem?_cons_zero, Option.some.injEq, exists_eq_left', List.length_cons, List.length_nil, List.length_set, List.set_cons_succ, List.set_cons_zero, Nat.zero_add, Nat.reduceAdd, Nat.reduceLT, ↓reduceIte]
    exact h a (ha'.s (by decide))
  refine ⟨_, q_eqI, ?_⟩
  refine ite2 (fun _ => ?_) fun _ => ?_
  · simp only [sq, ex, ev, args, evA, evO, evOs, evT, evP, i_, s_, recv, true_and, List.getElem?_cons_succ, List.getElem?_cons_zero, Option.some.injEq, exists_eq_left', List.length_cons, List.length_nil, List.length_set, List.set_cons_succ, List.set_cons_zero, Nat.zero_add, Nat.reduceAdd, Nat.reduceLT, ↓reduceIte]
    exact h b (hb'.s (by decide))
  refine ⟨_, q_eqI, ?_⟩
  refine ite2 (fun _ => ?_) fun _ => ?_
  · simp only [sq, ex, ev, args, evA, evO, evOs, evT, evP, i_, s_, recv, true_and, List.getElem?_cons_succ, List.getElem?_cons_zero, Option.some.injEq, exists_eq_left', List.length_cons, List.length_nil, List.length_set, List.set_cons_succ, List.set_cons_zero, Nat.zero_add, Nat.reduceAdd, Nat.reduceLT, ↓reduceIte, q_addI, q_addS, q_addL, q_addT, q_sub, q_ltI, q_leI, q_gtI, q_geI, q_ltS, q_eqI, q_neI, q_ixL, q_ixT, q_max2, q_min2, q_lenL, q_lenT, q_lenS, q_tupL, q_tupT, q_lstT, q_lstL, q_revT, q_revL, q_notV, q_intB, q_isN, q_notN, q_slT, q_slL, at_0, at_1, at_2, at_3, List.length_map, valsD, Option.map_some, PyData.bool.injEq, PyData.int.injEq]
    obtain ⟨d, ed, hd⟩ := at_nat (xs := oddT.map PyData.str) (i := at_) a0 a1
    obtain ⟨z, hz, rfl⟩ := List.mem_map.mp hd
    exact ⟨by rw [sizeLine_eq]; decide, _, ed, h z ⟨(oddT_ok z hz).1, by have := (oddT_ok z hz).2; omega⟩⟩
  · exact text_end ha' hb' s0 s1 h
end Tk
/-! K10: rows as they are drawn. -/
namespace Tk
open PySem PySem.Spec PyProof.Rows L2
def Itm (d : D) : Prop := plainD d ∧ (d.canLay0 = true ∧ d.depth ≤ 63)
theorem itm_str {z : Str} {n : Nat} (h : okL n z) (hn : n ≤ 1000) : Itm (.str z) := by
  refine ⟨⟨rfl, fun y e => by cases e; exact h.s hn⟩, ?_, by simp [PyData.depth]⟩
  simp only [PyData.canLay0, PyData.strOk]
  rw [Array.all_eq_true']
  intro c hc
  have := h.1 c (by simpa using hc)
  simp only [decide_eq_true_eq]
  omega
def thB2 : CS := sq [.asg (.name 4) (.op2 .ix (.lst (args [(.var 2), (.var 1), (.op1 .rev (.var 2)), (.op2 .add (.var 2) (.slc (.var 2) (.cons (.op1 .neg (i_ 1)) .nil) .nopart)), (.op2 .add (.op2 .add (.op1 .list (.slc (.var 2) .nopart (.cons (.var 6) .nil))) (.lst (args [(.var 3)]))) (.slc (.var 2) (.cons (.var 6) .nil) .nopart)), (.var 2), (.var 2)])) (.var 5)),
  .ret (.tup (args [(.op1 .tuple (.var 4)), (.op1 .list (.var 2)), (.op1 .tuple (.var 2))]))]
def thB1 : CS := .seq (.asg (.name 2) (.op1 .sortset (.var 1))) (.seq (.asg (.name 3) (.op2 .ix (.lst (args [(.const .none), (i_ 5), (s_ ""), (s_ "A"), (s_ "abcdefghi"), (.tup (args [(s_ "a")])), (.lst (args [(s_ "a")])), (.const (.bool true))])) (.call f__law_draw (args [(.var 0), (i_ 8)])))) thB2)
theorem row_tup {ds : List D} (hl : ds.length ≤ 1000) (h : ∀ d ∈ ds, Itm d) : Row (.tuple ds) := ⟨rfl, ⟨fun _ e => (nomatch e), fun es e => by cases e; exact ⟨hl, h⟩⟩⟩
theorem row_list {ds : List D} : Row (.list ds) := ⟨rfl, ⟨fun _ e => (nomatch e), fun es e => (nomatch e)⟩⟩
theorem cut_len {xs : List D} (l u : Option Int) : (cutD xs l u).length ≤ xs.length := by
  unfold cutD
  rw [List.length_take, List.length_drop]
  omega
theorem cut_mem {xs : List D} {l u : Option Int} {d : D} (h : d ∈ cutD xs l u) : d ∈ xs := List.mem_of_mem_drop (List.mem_of_mem_take h)
theorem th_end {m : Nat} {near some_ : List D} {odd : D} {w at_ : Int} {k : Slot → Prop} {x : KX} (hn : near.length ≤ 10) (hs : some_.length ≤ 10) (h1 : ∀ d ∈ near, Itm d) (h2 : ∀ d ∈ some_, Itm d) (h3 : Itm odd) (w0 : 0 ≤ w) (w1 : w < 7)
    (h : ∀ ds : List D, ds.length = 3 → (∀ d ∈ ds, Row d) → k (.val (.tuple ds))) :
    ex ⟨callW tab gl2 (m + 3), gl2⟩ thB2 [some .st, some (.val (.list some_)), some (.val (.list near)), some (.val odd), none, some (.val (.int w)), some (.val (.int at_)), none] (enD k x) := by
  have sz : ∀ {n : Nat}, n ≤ 1000 → n ≤ sizeLine := fun h => by rw [sizeLine_eq]; omega
  simp only [thB2, sq, ex, ev, args, evA, evO, evOs, evT, evP, i_, s_, recv, true_and, List.getElem?_cons_succ, List.getElem?_cons_zero, Option.some.injEq, exists_eq_left', List.length_cons, List.length_nil, List.length_set, List.set_cons_succ, List.set_cons_zero, Nat.zero_add, Nat.reduceAdd, Nat.reduceLT, ↓reduceIte, bindT, bindTs, List.length_cons, List.length_nil, List.length_set, List.set_cons_succ, List.set_cons_zero, Nat.zero_add, Nat.reduceAdd, Nat.reduceLT, true_and, q_addI, q_addS, q_addL, q_addT, q_sub, q_ltI, q_leI, q_gtI, q_geI, q_ltS, q_eqI, q_neI, q_ixL, q_ixT, q_max2, q_min2, q_lenL, q_lenT, q_lenS, q_tupL, q_tupT, q_lstT, q_lstL, q_revT, q_revL, q_notV, q_intB, q_isN, q_notN, q_slT, q_slL, at_0, at_1, at_2, at_3, List.length_map, valsD, Option.map_some, PyData.bool.injEq, PyData.int.injEq, enD]
  have c1 := cut_len (xs := near) (some (-1)) none
  have c2 := cut_len (xs := near) none (some at_)
  have c3 := cut_len (xs := near) (some at_) none
  refine ⟨_, rfl, _, rfl, _, if_pos (sz (by omega)), sz (by decide), _, if_pos (sz (by omega)), _, by rw [q_addL, if_pos (sz (by simp only [List.length_append, List.length_cons, List.length_nil]; omega))], sz (by decide), ?_⟩
  have all : ∀ d ∈ [PyData.list near, PyData.list some_, PyData.list near.reverse, PyData.list (near ++ cutD near (some (-1)) none), PyData.list (cutD near none (some at_) ++ [odd] ++ cutD near (some at_) none), PyData.list near, PyData.list near], ∃ xs, d = .list xs ∧ xs.length ≤ 100 ∧ ∀ e ∈ xs, Itm e := by
    intro d hd
    simp only [List.mem_cons, List.not_mem_nil, or_false] at hd
    rcases hd with rfl | rfl | rfl | rfl | rfl | rfl | rfl
    · exact ⟨_, rfl, by omega, h1⟩
    · exact ⟨_, rfl, by omega, h2⟩
    · exact ⟨_, rfl, by rw [List.length_reverse]; omega, fun e he => h1 e (List.mem_reverse.mp he)⟩
    · refine ⟨_, rfl, by rw [List.length_append]; omega, fun e he => ?_⟩
      rcases List.mem_append.mp he with he | he
      · exact h1 e he
      · exact h1 e (cut_mem he)
    · refine ⟨_, rfl, by simp only [List.length_append, List.length_cons, List.length_nil]; omega, fun e he => ?_⟩
      rcases List.mem_append.mp he with he | he
      · rcases List.mem_append.mp he with he | he
        · exact h1 e (cut_mem he)
        · rw [List.mem_singleton.mp he]; exact h3
      · exact h1 e (cut_mem he)
    · exact ⟨_, rfl, by omega, h1⟩
    · exact ⟨_, rfl, by omega, h1⟩
  obtain ⟨d, ed, hd⟩ := at_nat (xs := [PyData.list near, PyData.list some_, PyData.list near.reverse, PyData.list (near ++ cutD near (some (-1)) none), PyData.list (cutD near none (some at_) ++ [odd] ++ cutD near (some at_) none), PyData.list near, PyData.list near]) (i := w) w0 (by simpa using w1)
  obtain ⟨xs, rfl, hx, hi⟩ := all d hd
  refine ⟨_, ed, _, rfl, sz (by decide), h _ rfl fun e he => ?_⟩
  simp only [List.mem_cons, List.not_mem_nil, or_false] at he
  rcases he with rfl | rfl | rfl
  · exact row_tup (by omega) hi
  · exact row_list
  · exact row_tup (by omega) h1
theorem odd_ok : ∀ d ∈ [PyData.none, .int 5, .str "", .str "A", .str "abcdefghi", .tuple [.str "a"], .list [.str "a"], .bool true], Itm d := by
  have st : ∀ z : Str, z ∈ ([("" : Str), ("A" : Str), ("abcdefghi" : Str), ("a" : Str)] : List Str) → okL 9 z := by
    intro z hz
    have : ∀ z ∈ ([("" : Str), ("A" : Str), ("abcdefghi" : Str), ("a" : Str)] : List Str), (∀ c ∈ z.cps.toList, c < 128) ∧ z.length ≤ 9 := by decide +kernel
    exact this z hz
  have sa : (PyData.str "a").canLay0 = true := (itm_str (st "a" (by simp)) (by decide)).2.1
  intro d hd
  simp only [List.mem_cons, List.not_mem_nil, or_false] at hd
  rcases hd with rfl | rfl | rfl | rfl | rfl | rfl | rfl | rfl
  · exact ⟨⟨rfl, fun _ e => (nomatch e)⟩, rfl, by simp [PyData.depth]⟩
  · exact ⟨⟨rfl, fun _ e => (nomatch e)⟩, by simp [PyData.canLay0], by simp [PyData.depth]⟩
  · exact itm_str (st _ (by simp)) (by decide)
  · exact itm_str (st _ (by simp)) (by decide)
  · exact itm_str (st _ (by simp)) (by decide)
  · exact ⟨⟨rfl, fun _ e => (nomatch e)⟩, by simp [PyData.canLay0, PyData.canLayAll0] at sa ⊢; exact sa, by simp [PyData.depth, PyData.depthAll]⟩
  · exact ⟨⟨rfl, fun _ e => (nomatch e)⟩, by simp [PyData.canLay0, PyData.canLayAll0] at sa ⊢; exact sa, by simp [PyData.depth, PyData.depthAll]⟩
  · exact ⟨⟨rfl, fun _ e => (nomatch e)⟩, rfl, by simp [PyData.depth]⟩
theorem th_mid {m : Nat} {ys : List Str} {w at_ : Int} {k : Slot → Prop} {x : KX} (hs : ys.length ≤ 10) (hy : ∀ y ∈ ys, okL 10 y) (w0 : 0 ≤ w) (w1 : w < 7)
    (h : ∀ ds : List D, ds.length = 3 → (∀ d ∈ ds, Row d) → k (.val (.tuple ds))) :
    ex ⟨callW tab gl2 (m + 3), gl2⟩ thB1 [some .st, some (.val (.list (ys.map .str))), none, none, none, some (.val (.int w)), some (.val (.int at_)), none] (enD k x) := by
  have sz : ∀ {n : Nat}, n ≤ 1000 → n ≤ sizeLine := fun h => by rw [sizeLine_eq]; omega
  have srt : sem1 .sortset (.list (ys.map .str)) = some (.list ((sortS (Zs.dd ys)).map .str)) := by
    simp only [sem1, strsD_map, Option.bind_some]
    rw [if_pos (by omega)]
  have pm : (sortS (Zs.dd ys)).Perm (Zs.dd ys) := List.mergeSort_perm _ _
  have hm : ∀ y ∈ sortS (Zs.dd ys), okL 10 y := fun y h => hy y ((dd_mem ys y).mp (pm.mem_iff.mp h))
  have hl : (sortS (Zs.dd ys)).length ≤ 10 := by
    rw [pm.length_eq]
    have h2 := @Zs.dd_len Str _ ys []
    unfold Zs.dd
    simp only [List.length_nil] at h2
    omega
  simp only [thB1, ex, ev, args, evA, evO, evOs, evT, evP, i_, s_, recv, true_and, List.getElem?_cons_succ, List.getElem?_cons_zero, Option.some.injEq, exists_eq_left', List.length_cons, List.length_nil, List.length_set, List.set_cons_succ, List.set_cons_zero, Nat.zero_add, Nat.reduceAdd, Nat.reduceLT, ↓reduceIte, bindT, bindTs, List.length_cons, List.length_nil, List.length_set, List.set_cons_succ, List.set_cons_zero, Nat.zero_add, Nat.reduceAdd, Nat.reduceLT, true_and]
  refine ⟨_, srt, _, rfl, sz (by decide), _, rfl, sz (by decide), _, rfl, sz (by decide), draw_call (by decide) (by decide) fun r r0 r1 => ⟨_, rfl, ?_⟩⟩
  obtain ⟨d, ed, hd⟩ := at_nat (xs := [PyData.none, .int 5, .str "", .str "A", .str "abcdefghi", .tuple [.str "a"], .list [.str "a"], .bool true]) (i := r) r0 (by simpa using r1)
  refine ⟨d, ed, th_end (by rw [List.length_map]; exact hl) (by rw [List.length_map]; exact hs) (fun e he => ?_) (fun e he => ?_) (odd_ok d hd) w0 w1 h⟩
  · obtain ⟨y, hy', rfl⟩ := List.mem_map.mp he
    exact itm_str (hm y hy') (by decide)
  · obtain ⟨y, hy', rfl⟩ := List.mem_map.mp he
    exact itm_str (hy y hy') (by decide)
theorem abz_ok : ∀ c ∈ ("abz" : Str).cps.toList, c < 128 := by decide +kernel
theorem ah_ok : ∀ c ∈ ("abcdefgh" : Str).cps.toList, c < 128 := by decide +kernel
theorem strs_ofN {n : Nat} : ∀ {ds : List D}, (∀ d ∈ ds, ∃ y, d = .str y ∧ okL n y) → ∃ ys : List Str, ds = ys.map .str ∧ ∀ y ∈ ys, okL n y
  | [], _ => ⟨[], rfl, by simp⟩
  | d :: ds, hd => by
    obtain ⟨y, rfl, hy⟩ := hd d (by simp)
    obtain ⟨ys, rfl, hys⟩ := strs_ofN (ds := ds) fun e he => hd e (by simp [he])
    exact ⟨y :: ys, rfl, by simpa using ⟨hy, hys⟩⟩
theorem call_things {m : Nat} {k : Slot → Prop} {x : KX} (h : ∀ ds : List D, ds.length = 3 → (∀ d ∈ ds, Row d) → k (.val (.tuple ds))) : callW tab gl2 (m + 4) f__law_things [.st] k x := by
  refine call_code (d := d__law_things) rfl rfl ?_
  show ex _ (.seq _ (.seq _ (.seq _ thB1))) [some .st, none, none, none, none, none, none, none] (enD k x)
  simp only [ex, ev, args, evA, evO, evOs, evT, evP, i_, s_, recv, true_and, List.getElem?_cons_succ, List.getElem?_cons_zero, Option.some.injEq, exists_eq_left', List.length_cons, List.length_nil, List.length_set, List.set_cons_succ, List.set_cons_zero, Nat.zero_add, Nat.reduceAdd, Nat.reduceLT, ↓reduceIte, evI]
  refine draw_call (by decide) (by decide) fun r r0 r1 => ⟨_, rfl, r, rfl, ⟨by omega, by omega⟩, ?_⟩
  have hr : (rangeD 0 r).length = r.toNat := by
    have := range_len r.toNat
    rw [Int.toNat_of_nonneg r0] at this
    exact this
  refine loop_nd (fun d => ∃ y, d = .str y ∧ okL 10 y) _ _ _ (by rw [hr, sizeLine_eq]; simp; omega) (fun y _ acc k' hl hk => ?_) fun ds hd hp => ?_
  · simp only [bindT, bindTs, List.length_cons, List.length_nil, List.length_set, List.set_cons_succ, List.set_cons_zero, Nat.zero_add, Nat.reduceAdd, Nat.reduceLT, true_and, wipeD, List.getElem?_cons_zero]
    refine call_any (by decide +kernel) (by decide +kernel) abz_ok (by decide) (by decide) fun a ha => ⟨_, rfl, draw_call (by decide) (by decide) fun r2 g0 g1 => ⟨_, rfl, ?_⟩⟩
    obtain ⟨z, e, hz⟩ := ix_sem (x := "abcdefgh") ah_ok g0 (by have : ("abcdefgh" : Str).length = 8 := by decide +kernel
                                                               omega)
    have ha' : okL 3 a := ha
    refine ⟨_, e, _, by rw [q_addS, if_pos (by have := ha'.2; have := hz.2; rw [sizeLine_eq]; omega)], hl, hk _ ⟨_, rfl, (ha'.add hz).mono (by decide)⟩⟩
  · obtain ⟨ys, rfl, hy⟩ := strs_ofN hp
    have hly : ys.length ≤ 10 := by rw [List.length_map, hr] at hd; omega
    simp only [List.nil_append, toOwn, ex, ev, args, evA, evO, evOs, evT, evP, i_, s_, recv, true_and, List.getElem?_cons_succ, List.getElem?_cons_zero, Option.some.injEq, exists_eq_left', List.length_cons, List.length_nil, List.length_set, List.set_cons_succ, List.set_cons_zero, Nat.zero_add, Nat.reduceAdd, Nat.reduceLT, ↓reduceIte]
    refine draw_call (by decide) (by decide) fun w w0 w1 => draw_call (by decide) (by decide) fun at_ a0 a1 => ⟨_, rfl, ?_⟩
    exact th_mid hly hy w0 w1 h
end Tk
/-! K11: the plain law of k02, the end. -/
namespace Tk
open PySem PySem.Spec PyProof.Rows L2
theorem q_le2 {a b c : Int} : True := trivial
def isWhole (d : D) (lo hi : Int) : Bool := match d with
  | .int i => decide (lo ≤ i) && decide (i ≤ hi)
  | _ => false
theorem call_is_whole {n : Nat} {d : D} {lo hi : Int} {k : Slot → Prop} {x : KX} (hd : plainD d) (h : k (.val (.bool (isWhole d lo hi)))) : callW tab gl2 (n + 1) f_is_whole [.val d, .val (.int lo), .val (.int hi)] k x := by
  refine call_code (d := d_is_whole) rfl rfl ?_
  show ex _ b_is_whole [some (.val d), some (.val (.int lo)), some (.val (.int hi))] _
  simp only [b_is_whole, sq, ex, ev, args, evA, evO, evOs, evT, evP, i_, s_, recv, true_and, List.getElem?_cons_succ, List.getElem?_cons_zero, Option.some.injEq, exists_eq_left', List.length_cons, List.length_nil, List.length_set, List.set_cons_succ, List.set_cons_zero, Nat.zero_add, Nat.reduceAdd, Nat.reduceLT, ↓reduceIte, enD]
  refine ⟨_, q_isi1 hd.1, _, rfl, ?_⟩
  cases d with
  | int i =>
    rw [if_pos (by simp only [isiD]; decide +kernel)]
    refine ⟨_, q_isi1 hd.1, _, rfl, _, rfl, ?_⟩
    rw [if_pos (by simp only [isiD]; decide +kernel)]
    refine ⟨_, q_leI, ?_⟩
    simp only [isWhole] at h
    refine ite2 (fun g => ?_) fun g => ?_
    · rw [g] at h
      exact ⟨_, q_leI, by simpa using h⟩
    · have g : decide (lo ≤ i) = false := by simpa using g
      rw [g] at h
      simpa using h
  | bool b =>
    rw [if_pos (by simp only [isiD]; decide +kernel)]
    refine ⟨_, q_isi1 hd.1, _, rfl, _, rfl, ?_⟩
    rw [if_neg (by simp only [isiD]; decide +kernel)]
    exact h
  | str z => rw [if_neg (by simp only [isiD]; decide +kernel)]; exact h
  | none => rw [if_neg (by simp only [isiD]; decide +kernel)]; exact h
  | tuple b => rw [if_neg (by simp only [isiD]; decide +kernel)]; exact h
  | list b => rw [if_neg (by simp only [isiD]; decide +kernel)]; exact h
  | dict b => rw [if_neg (by simp only [isiD]; decide +kernel)]; exact h
theorem show3 (b : Bool) : ShowOk (.list [.bool b, .bool false, .bool false]) := by
  refine show_of ?_ ?_ ?_ ?_ ?_ <;> cases b <;> decide +kernel
def wr3 : CS := sq [.asg (.name 2) (.lst (args [(.call f_is_whole (args [(.var 6), (.var 3), (.var 7)])), (.call f_is_whole (args [(.var 1), (.op2 .sub (i_ 0) (i_ 5)), (i_ 5)])), (.call f_is_whole (args [(.var 6), (.op2 .add (.var 6) (i_ 1)), (.var 6)]))])),
      .ret (.op2 .eq (.op1 .repr (.var 2)) (.op1 .repr (.lst (args [(.chain .le .le (.var 3) (.var 6) (.var 7)), (.const (.bool false)), (.const (.bool false))]))))]
theorem whole_end {m : Nat} {d : D} {le sp w mi tp : Int} {k : Slot → Prop} {x : KX} (hd : plainD d) (h5 : isWhole d (-5) 5 = false) (h : k (.val (.bool true))) :
    ex ⟨callW tab gl2 (m + 2), gl2⟩ wr3
      [some .st, some (.val d), none, some (.val (.int le)), some (.val (.int sp)), some (.val (.int w)), some (.val (.int mi)), some (.val (.int tp))] (enD k x) := by
  have pi : ∀ i : Int, plainD (.int i) := fun i => ⟨rfl, fun _ e => (nomatch e)⟩
  simp only [wr3, sq, ex, ev, args, evA, evO, evOs, evT, evP, i_, s_, recv, true_and, List.getElem?_cons_succ, List.getElem?_cons_zero, Option.some.injEq, exists_eq_left', List.length_cons, List.length_nil, List.length_set, List.set_cons_succ, List.set_cons_zero, Nat.zero_add, Nat.reduceAdd, Nat.reduceLT, ↓reduceIte, bindT, bindTs, List.length_cons, List.length_nil, List.length_set, List.set_cons_succ, List.set_cons_zero, Nat.zero_add, Nat.reduceAdd, Nat.reduceLT, true_and, enD]
  refine call_is_whole (pi mi) ⟨_, rfl, _, q_sub, call_is_whole hd ⟨_, rfl, _, q_addI, call_is_whole (pi mi) ⟨_, rfl, _, rfl, ?_, ?_⟩⟩⟩
  · rw [sizeLine_eq]; simp
  have e1 : isWhole (.int mi) (mi + 1) mi = false := by
    simp only [isWhole]
    have : decide (mi + 1 ≤ mi) = false := decide_eq_false (by omega)
    rw [this]; rfl
  have e2 : isWhole d (0 - 5) 5 = false := h5
  rw [e1, e2]
  have sh : ∀ b : Bool, sem1 .repr (.list [.bool b, .bool false, .bool false]) = some (.str (PyData.list [.bool b, .bool false, .bool false]).shown) := fun b => (show3 b).sem
  refine ⟨_, sh _, _, q_leI, ?_⟩
  simp only [isWhole]
  refine ite2 (fun g => ?_) fun g => ?_
  · rw [g, Bool.true_and]
    refine ⟨_, q_leI, _, rfl, by rw [sizeLine_eq]; simp, _, sh _, _, q_eqS, ?_⟩
    simpa using h
  · have g : decide (le ≤ mi) = false := by simpa using g
    rw [g, Bool.false_and]
    refine ⟨_, rfl, by rw [sizeLine_eq]; simp, _, sh _, _, q_eqS, ?_⟩
    simpa using h
def wr2 : CS := .seq (.par [6, 7] (args [(.op2 .add (.var 3) (.op2 .ix (.lst (args [(.op2 .sub (i_ 0) (i_ 1)), (i_ 0), (i_ 1), (.var 4), (.op2 .add (.var 4) (i_ 1)), (.op2 .fdiv (.var 4) (i_ 2))])) (.var 5))), (.op2 .add (.var 3) (.var 4))])) wr3
theorem whole_mid {m : Nat} {d : D} {le sp w : Int} {k : Slot → Prop} {x : KX} (hd : plainD d) (h5 : isWhole d (-5) 5 = false) (w0 : 0 ≤ w) (w1 : w < 6) (h : k (.val (.bool true))) :
    ex ⟨callW tab gl2 (m + 2), gl2⟩ wr2 [some .st, some (.val d), none, some (.val (.int le)), some (.val (.int sp)), some (.val (.int w)), none, none] (enD k x) := by
  simp only [wr2, ex, ev, args, evA, evO, evOs, evT, evP, i_, s_, recv, true_and, List.getElem?_cons_succ, List.getElem?_cons_zero, Option.some.injEq, exists_eq_left', List.length_cons, List.length_nil, List.length_set, List.set_cons_succ, List.set_cons_zero, Nat.zero_add, Nat.reduceAdd, Nat.reduceLT, ↓reduceIte, q_addI, q_addS, q_addL, q_addT, q_sub, q_ltI, q_leI, q_gtI, q_geI, q_ltS, q_eqI, q_neI, q_ixL, q_ixT, q_max2, q_min2, q_lenL, q_lenT, q_lenS, q_tupL, q_tupT, q_lstT, q_lstL, q_revT, q_revL, q_notV, q_intB, q_isN, q_notN, q_slT, q_slL, at_0, at_1, at_2, at_3, List.length_map, valsD, Option.map_some, PyData.bool.injEq, PyData.int.injEq]
  obtain ⟨e, ee, he⟩ := at_nat (xs := [PyData.int (0 - 1), .int 0, .int 1, .int sp, .int (sp + 1), .int (sp.fdiv 2)]) (i := w) w0 (by simpa using w1)
  obtain ⟨i, rfl⟩ : ∃ i, e = .int i := by
    simp only [List.mem_cons, List.not_mem_nil, or_false] at he
    rcases he with rfl | rfl | rfl | rfl | rfl | rfl <;> exact ⟨_, rfl⟩
  have fd : sem2 Op2.fdiv (PyData.int sp) (PyData.int 2) = some (.int (sp.fdiv 2)) := s_fdiv (by decide) (by decide)
  exact ⟨_, fd, by rw [sizeLine_eq]; decide, _, ee, _, q_addI, _, rfl, whole_end hd h5 h⟩
theorem call_whole {m : Nat} {d : D} {k : Slot → Prop} {x : KX} (hd : plainD d) (h5 : isWhole d (-5) 5 = false) (h : k (.val (.bool true))) : callW tab gl2 (m + 3) f__law_whole_right [.st, .val d] k x := by
  refine call_code (d := d__law_whole_right) rfl rfl ?_
  show ex _ (.seq _ wr2) [some .st, some (.val d), none, none, none, none, none, none] (enD k x)
  simp only [ex, ev, args, evA, evO, evOs, evT, evP, i_, s_, recv, true_and, List.getElem?_cons_succ, List.getElem?_cons_zero, Option.some.injEq, exists_eq_left', List.length_cons, List.length_nil, List.length_set, List.set_cons_succ, List.set_cons_zero, Nat.zero_add, Nat.reduceAdd, Nat.reduceLT, ↓reduceIte, q_addI, q_addS, q_addL, q_addT, q_sub, q_ltI, q_leI, q_gtI, q_geI, q_ltS, q_eqI, q_neI, q_ixL, q_ixT, q_max2, q_min2, q_lenL, q_lenT, q_lenS, q_tupL, q_tupT, q_lstT, q_lstL, q_revT, q_revL, q_notV, q_intB, q_isN, q_notN, q_slT, q_slL, at_0, at_1, at_2, at_3, List.length_map, valsD, Option.map_some, PyData.bool.injEq, PyData.int.injEq]
  have pw : sem2 Op2.pow (PyData.int 10) (PyData.int 18) = some (.int (10 ^ 18)) := by
    simp only [sem2]
    rw [if_pos (.inl (by decide))]
    rfl
  refine draw_call (by decide) (by decide) fun r r0 r1 => ⟨_, rfl, _, q_sub, _, pw, by rw [sizeLine_eq]; decide, draw_call (by decide) (by decide) fun r2 g0 g1 => ⟨_, rfl, ?_⟩⟩
  obtain ⟨e, ee, he⟩ := at_nat (xs := [PyData.int 0, .int 1, .int 9, .int (10 ^ 18)]) (i := r2) g0 (by simpa using g1)
  obtain ⟨i, rfl⟩ : ∃ i, e = .int i := by
    simp only [List.mem_cons, List.not_mem_nil, or_false] at he
    rcases he with rfl | rfl | rfl | rfl <;> exact ⟨_, rfl⟩
  exact ⟨_, ee, draw_call (by decide) (by decide) fun w w0 w1 => ⟨_, rfl, whole_mid hd h5 w0 w1 h⟩⟩
end Tk
/-! K12: the law of k02. -/
namespace Tk
open PySem PySem.Spec PyProof.Rows L2
theorem loop_all {bd : D → Dl → En → Prop} {E : En} (P : D → Prop) (Iv : Dl → Prop) (hb : ∀ y δ (E' : En), P y → Iv δ → (∀ δ', Iv δ' → E'.nx δ') → bd y δ E') (he : ∀ δ, Iv δ → E.nx δ) : ∀ (xs : List D), (∀ y ∈ xs, P y) → ∀ δ, Iv δ → loopS bd xs δ E
  | [], _, δ, h0 => he δ h0
  | y :: xs, hx, δ, h0 => by
    simp only [loopS]
    exact hb y δ _ (hx y (by simp)) h0 fun δ' h' => loop_all P Iv hb he xs (fun z hz => hx z (by simp [hz])) δ' h'
def C8 : Cfg := ⟨callW tab gl2 8, gl2⟩
def wB : CS := sq [.ite (.not_ (.call f__law_whole_right (args [(.var 1), (.var 7)]))) (sq [.ret (.const (.bool false))])
      (.nop)]
def tB : CS := sq [.asg (.name 8) (.lst (args [(.call f__law_is_name (args [(.var 7)])), (.call f__law_rises (args [(.var 7)])), (.call f__law_number (args [(.var 7)]))])),
    .ite (.op2 .ne (.op1 .repr (.lst (args [(.call f_is_name (args [(.var 7)])), (.call f_is_rising (args [(.var 7)])), (.call f_number_in (args [(.var 7)]))]))) (.op1 .repr (.var 8))) (sq [.ret (.const (.bool false))])
      (.nop)]
def dl (a b c d e f g h i : Option Slot) : Dl := [none, some .st, a, b, c, d, e, f, g, h, i]
theorem w_body {a b c d e f g h i : Option Slot} {y : D} {E : En} (hy : plainD y) (h5 : isWhole y (-5) 5 = false) (hn : E.nx (dl a b c d e (some (.val y)) g h i)) :
    bindT (.name 7) y (dl a b c d e f g h i) fun δ1 => ex C8 wB δ1 E := by
  simp only [dl, C8, wB, bindT, bindTs, List.length_cons, List.length_nil, List.length_set, List.set_cons_succ, List.set_cons_zero, Nat.zero_add, Nat.reduceAdd, Nat.reduceLT, true_and, sq, ex, ev, args, evA, evO, evOs, evT, evP, i_, s_, recv, true_and, List.getElem?_cons_succ, List.getElem?_cons_zero, Option.some.injEq, exists_eq_left', List.length_cons, List.length_nil, List.length_set, List.set_cons_succ, List.set_cons_zero, Nat.zero_add, Nat.reduceAdd, Nat.reduceLT, ↓reduceIte]
  exact call_whole hy h5 ⟨_, rfl, _, rfl, by rw [if_neg (by simp)]; exact hn⟩
theorem t_body {a b c d e f g h i : Option Slot} {y : D} {E : En} (hy : Row y) (hsh : ShowOk (.list [.bool (isOf y SMALL_ 8), .bool (isRising y), numD y])) (hn : ∀ f g, E.nx (dl a b c d e f g h i)) :
    bindT (.name 7) y (dl a b c d e f g h i) fun δ1 => ex C8 tB δ1 E := by
  simp only [dl, C8, tB, bindT, bindTs, List.length_cons, List.length_nil, List.length_set, List.set_cons_succ, List.set_cons_zero, Nat.zero_add, Nat.reduceAdd, Nat.reduceLT, true_and, sq, ex, ev, args, evA, evO, evOs, evT, evP, i_, s_, recv, true_and, List.getElem?_cons_succ, List.getElem?_cons_zero, Option.some.injEq, exists_eq_left', List.length_cons, List.length_nil, List.length_set, List.set_cons_succ, List.set_cons_zero, Nat.zero_add, Nat.reduceAdd, Nat.reduceLT, ↓reduceIte]
  refine call_l_is_name hy.plain ⟨_, rfl, call_l_rises hy ⟨_, rfl, call_l_number hy.plain ⟨_, rfl, _, rfl, by rw [sizeLine_eq]; simp, ?_⟩⟩⟩
  refine call_is_name hy.plain ⟨_, rfl, call_is_rising hy ⟨_, rfl, call_number_in hy.plain ⟨_, rfl, _, rfl, by rw [sizeLine_eq]; simp, _, hsh.sem, _, hsh.sem, _, q_neS, ?_⟩⟩⟩
  rw [if_neg (by simp)]
  exact hn _ _
theorem numD_cases (y : D) : numD y = .none ∨ ∃ v : Nat, v < 10 ^ 6 ∧ numD y = .int ((v : Nat) : Int) := by
  cases y <;> first | exact .inl rfl | skip
  rename_i z
  cases hz : numOk z with
  | false => left; simp only [numD, hz]; rfl
  | true =>
    right
    have ho : isOf (.str z) FIG_ 6 = true := by
      simp only [numOk, Bool.and_eq_true] at hz
      exact hz.1
    obtain ⟨_, h2, h3⟩ := isOf_parts ho
    have hlt := dv_lt z.cps.toList 0 (fig_of h3)
    have hl : z.cps.toList.length = z.length := Array.length_toList
    refine ⟨NumText.digitsVal z.cps.toList, ?_, by simp only [numD, hz, if_true]⟩
    rw [← dv_digits]
    refine Nat.lt_of_lt_of_le hlt ?_
    rw [Nat.zero_add, Nat.one_mul]
    exact Nat.pow_le_pow_right (by decide) (by omega)
theorem show_num (a b : Bool) (y : D) : ShowOk (.list [.bool a, .bool b, numD y]) := by
  rcases numD_cases y with e | ⟨v, hv, e⟩
  · rw [e]
    refine show_of ?_ ?_ ?_ ?_ ?_ <;> cases a <;> cases b <;> decide +kernel
  · rw [e]
    have hlog : (((v : Nat) : Int)).natAbs.log2 < 20 := by
      rw [Int.natAbs_natCast]
      by_cases hz : v = 0
      · subst hz; decide
      · exact (Nat.log2_lt hz).mpr (Nat.lt_of_lt_of_le hv (by decide))
    refine show_of (by simp [PyData.canLay0, PyData.canLayAll0]) (by simp [PyData.depth, PyData.depthAll]) ?_ ?_ ?_
    · simp only [PyData.weight, PyData.weightAll]
      have : (2 : Nat) ^ 20 = 1048576 := by decide
      split <;> omega
    · simp only [PyData.intsShort, PyData.intsShortAll, Bool.true_and, Bool.and_true, decide_eq_true_eq]
      have e1 : (PyData.shown (.int ((v : Nat) : Int))) = Str.ofString (toString ((v : Nat) : Int)) := rfl
      have e2 : (Str.ofString (toString ((v : Nat) : Int))).cps.toList = TL.numL v := TL.tl_num v
      have hl : (Str.ofString (toString ((v : Nat) : Int))).cps.toList.length = (Str.ofString (toString ((v : Nat) : Int))).length := Array.length_toList
      have := TL.numL_len (n := v) (k := 6) (by decide) hv
      rw [e1, ← hl, e2]
      omega
    · simp only [PyData.showable, PyData.showableAll, Bool.true_and, Bool.and_true, decide_eq_true_eq]
      omega
def lF2 : CS := sq [.for_ (.name 7) (.iter (.lst (args [(.const .none), (.const (.bool true)), (.const (.bool false)), (s_ "1"), (.tup (args [(i_ 1)])), (.lst (args [])), (.disp [] (args [])), (.op2 .ix (.var 2) (i_ 0)), (.var 6)]))) wB,
  .ret (.const (.bool true))]
def lF1 : CS := .seq (.for_ (.name 7) (.iter (.op2 .add (.op2 .add (.var 2) (.var 3)) (.op1 .rev (.var 2)))) tB) lF2
def lA : CS := .seq (.asg (.name 6) (.op2 .mul (.op2 .pow (.op2 .pow (i_ 10) (i_ 64)) (i_ 64)) (.op2 .pow (.op2 .pow (i_ 10) (i_ 60)) (i_ 16))))
  (.seq (.asg (.name 3) (.op2 .add (.var 3) (.lst (args [(.op1 .tuple (.var 5)), (.op1 .tuple (.op2 .add (.slc (.var 5) .nopart (.cons (i_ 10) .nil)) (.op1 (.revto 9) (.var 5)))), (.op1 .tuple (.op2 .add (.var 5) (.slc (.var 5) (.cons (.op1 .neg (i_ 1)) .nil) .nopart))), (.var 6)])))) lF1)
def lM : CS := .seq (.asgO 5 (.comp [10] (.op2 .add (s_ "a") (.var 10)) (.name 10) (.iter (s_ "abcdefghijkl")) .nil)) (.seq (.frz 5) lA)
def thL : CS := sq [.asg (.name 3) (.op2 .add (.var 3) (.op1 .list (.call f__law_things (args [(.var 1)]))))]
def lT : CS := .seq (.for_ (.name 4) (.range1 (i_ 4)) thL) lM
def lO : CS := .seq (.asg (.name 3) (.lst (args [(.const .none), (.const (.bool true)), (.const (.bool false)), (i_ 5), (i_ 0), (.tup (args [(s_ "a")])), (.lst (args [(s_ "a")])), (.disp [] (args [])), (.tup (args [])), (.lst (args [])), (.tup (args [(s_ "b"), (s_ "a")])), (.tup (args [(s_ "1")])), (.disp ["a"] (args [(s_ "b")])), (.op2 .pow (i_ 10) (i_ 18)), (s_ "a\n"), (s_ "\n")]))) lT
theorem rest_eq : restB = .seq (.asgO 2 (.comp [9] (.call f__law_text (args [(.var 1)])) (.name 9) (.range1 (i_ 16)) .nil)) (.seq (.frz 2) lO) := rfl
theorem sz {n : Nat} (h : n ≤ 1000) : n ≤ sizeLine := by rw [sizeLine_eq]; omega
theorem f2_ok {T : List D} {b c d f g h i : Option Slot} {far : Int} (hT : ∀ t ∈ T, ∃ z, t = .str z ∧ okS z) (h0 : T ≠ []) (hf : 5 < far) : ex C8 lF2 (dl (some (.val (.list T))) b c d (some (.val (.int far))) f g h i) E1 := by
  cases T with
  | nil => exact absurd rfl h0
  | cons t T =>
  obtain ⟨z, rfl, hz⟩ := hT t (by simp)
  simp only [lF2, sq, ex, ev, args, evA, evO, evOs, evT, evP, i_, s_, recv, true_and, List.getElem?_cons_succ, List.getElem?_cons_zero, Option.some.injEq, exists_eq_left', List.length_cons, List.length_nil, List.length_set, List.set_cons_succ, List.set_cons_zero, Nat.zero_add, Nat.reduceAdd, Nat.reduceLT, ↓reduceIte, dl, C8, evI, evV, q_addI, q_addS, q_addL, q_addT, q_sub, q_ltI, q_leI, q_gtI, q_geI, q_ltS, q_eqI, q_neI, q_ixL, q_ixT, q_max2, q_min2, q_lenL, q_lenT, q_lenS, q_tupL, q_tupT, q_lstT, q_lstL, q_revT, q_revL, q_notV, q_intB, q_isN, q_notN, q_slT, q_slL, at_0, at_1, at_2, at_3, List.length_map, valsD, Option.map_some, PyData.bool.injEq, PyData.int.injEq]
  refine ⟨sz (by decide), sz (by decide), by decide, List.nodup_nil, sz (by decide), _, rfl, ?_⟩
  have key := loop_all (bd := fun y δ' E' => bindT (.name 7) y δ' fun δ1 => ex C8 wB δ1 E') (E := ⟨fun δ' => E1.rt (Slot.val (PyData.bool true)), E1.rt, E1.bk, E1.ct, E1.xc⟩) (fun y => plainD y ∧ isWhole y (-5) 5 = false) (fun δ => ∃ f, δ = dl (some (.val (.list (.str z :: T)))) b c d (some (.val (.int far))) f g h i)
    (fun y δ E' hy ⟨f, e⟩ hn => by subst e; exact w_body hy.1 hy.2 (hn _ ⟨_, rfl⟩)) (fun δ _ => rfl)
  refine key _ (fun y hy => ?_) _ ⟨f, rfl⟩
  simp only [List.mem_cons, List.not_mem_nil, or_false] at hy
  rcases hy with rfl | rfl | rfl | rfl | rfl | rfl | rfl | rfl | rfl
  · exact ⟨⟨rfl, fun _ e => (nomatch e)⟩, rfl⟩
  · exact ⟨⟨rfl, fun _ e => (nomatch e)⟩, rfl⟩
  · exact ⟨⟨rfl, fun _ e => (nomatch e)⟩, rfl⟩
  · refine ⟨⟨rfl, fun _ e => ?_⟩, rfl⟩
    cases e
    have : (∀ c ∈ ("1" : Str).cps.toList, c < 128) ∧ ("1" : Str).length ≤ 1000 := by decide +kernel
    exact this
  · exact ⟨⟨rfl, fun _ e => (nomatch e)⟩, rfl⟩
  · exact ⟨⟨rfl, fun _ e => (nomatch e)⟩, rfl⟩
  · exact ⟨⟨rfl, fun _ e => (nomatch e)⟩, rfl⟩
  · exact ⟨⟨rfl, fun _ e => by cases e; exact hz⟩, rfl⟩
  · refine ⟨⟨rfl, fun _ e => (nomatch e)⟩, ?_⟩
    simp only [isWhole]
    have : decide (far ≤ 5) = false := decide_eq_false (by omega)
    rw [this, Bool.and_false]
theorem row_str {z : Str} (h : okS z) : Row (.str z) := ⟨rfl, ⟨fun _ e => by cases e; exact h, fun _ e => (nomatch e)⟩⟩
theorem f1_ok {T O : List D} {c d f g h i : Option Slot} {far : Int} (hT : ∀ t ∈ T, ∃ z, t = .str z ∧ okS z) (h0 : T ≠ []) (hl : T.length ≤ 100) (hO : ∀ y ∈ O, Row y) (hl2 : O.length ≤ 200) (hf : 5 < far) :
    ex C8 lF1 (dl (some (.val (.list T))) (some (.val (.list O))) c d (some (.val (.int far))) f g h i) E1 := by
  have hT' : ∀ t ∈ T, Row t := fun t ht => by obtain ⟨z, rfl, hz⟩ := hT t ht; exact row_str hz
  simp only [lF1, ex, ev, args, evA, evO, evOs, evT, evP, i_, s_, recv, true_and, List.getElem?_cons_succ, List.getElem?_cons_zero, Option.some.injEq, exists_eq_left', List.length_cons, List.length_nil, List.length_set, List.set_cons_succ, List.set_cons_zero, Nat.zero_add, Nat.reduceAdd, Nat.reduceLT, ↓reduceIte, dl, evI, q_addI, q_addS, q_addL, q_addT, q_sub, q_ltI, q_leI, q_gtI, q_geI, q_ltS, q_eqI, q_neI, q_ixL, q_ixT, q_max2, q_min2, q_lenL, q_lenT, q_lenS, q_tupL, q_tupT, q_lstT, q_lstL, q_revT, q_revL, q_notV, q_intB, q_isN, q_notN, q_slT, q_slL, at_0, at_1, at_2, at_3, List.length_map, valsD, Option.map_some, PyData.bool.injEq, PyData.int.injEq]
  refine ⟨_, if_pos (sz (by omega)), _, by rw [q_addL, if_pos (sz (by simp only [List.length_append, List.length_reverse]; omega))], _, rfl, ?_⟩
  have key := loop_all (bd := fun y δ' E' => bindT (.name 7) y δ' fun δ1 => ex C8 tB δ1 E') (E := ⟨fun δ' => ex C8 lF2 δ' E1, E1.rt, E1.bk, E1.ct, E1.xc⟩) Row (fun δ => ∃ f g, δ = dl (some (.val (.list T))) (some (.val (.list O))) c d (some (.val (.int far))) f g h i)
    (fun y δ E' hy ⟨f, g, e⟩ hn => by subst e; exact t_body hy (show_num _ _ _) fun f g => hn _ ⟨f, g, rfl⟩) (fun δ ⟨f, g, e⟩ => by subst e; exact f2_ok hT h0 hf)
  refine key _ (fun y hy => ?_) _ ⟨f, g, rfl⟩
  rcases List.mem_append.mp hy with hy | hy
  · rcases List.mem_append.mp hy with hy | hy
    · exact hT' y hy
    · exact hO y hy
  · exact hT' y (List.mem_reverse.mp hy)
theorem far_ok : (5 : Int) < ((10 ^ 64) ^ 64) * ((10 ^ 60) ^ 16) := by decide +kernel
theorem far_sem : sem2 .pow (.int 10) (.int 64) = some (.int (10 ^ 64)) ∧ sem2 .pow (.int (10 ^ 64)) (.int 64) = some (.int ((10 ^ 64) ^ 64)) ∧ sem2 .pow (.int 10) (.int 60) = some (.int (10 ^ 60)) ∧ sem2 .pow (.int (10 ^ 60)) (.int 16) = some (.int ((10 ^ 60) ^ 16)) ∧
    sem2 .mul (.int ((10 ^ 64) ^ 64)) (.int ((10 ^ 60) ^ 16)) = some (.int (((10 ^ 64) ^ 64) * ((10 ^ 60) ^ 16))) := by
  refine ⟨?_, ?_, ?_, ?_, ?_⟩
  · simp only [sem2]; rw [if_pos (.inl (by decide +kernel))]; rfl
  · simp only [sem2]; rw [if_pos (.inr (by decide +kernel))]; rfl
  · simp only [sem2]; rw [if_pos (.inl (by decide +kernel))]; rfl
  · simp only [sem2]; rw [if_pos (.inr (by decide +kernel))]; rfl
  · simp only [sem2]; rw [if_pos (.inr (by decide +kernel))]
theorem lA_ok {T O : List D} {ys : List Str} {c e f g h i : Option Slot} (hT : ∀ t ∈ T, ∃ z, t = .str z ∧ okS z) (h0 : T ≠ []) (hl : T.length ≤ 100) (hO : ∀ y ∈ O, Row y) (hl2 : O.length ≤ 100) (hy : ys.length = 12) (hys : ∀ y ∈ ys, okL 10 y) :
    ex C8 lA (dl (some (.val (.list T))) (some (.val (.list O))) c (some (.val (.list (ys.map .str)))) e f g h i) E1 := by
  obtain ⟨p1, p2, p3, p4, p5⟩ := far_sem
  simp only [lA, ex, ev, args, evA, evO, evOs, evT, evP, i_, s_, recv, true_and, List.getElem?_cons_succ, List.getElem?_cons_zero, Option.some.injEq, exists_eq_left', List.length_cons, List.length_nil, List.length_set, List.set_cons_succ, List.set_cons_zero, Nat.zero_add, Nat.reduceAdd, Nat.reduceLT, ↓reduceIte, bindT, bindTs, List.length_cons, List.length_nil, List.length_set, List.set_cons_succ, List.set_cons_zero, Nat.zero_add, Nat.reduceAdd, Nat.reduceLT, true_and, dl, q_addI, q_addS, q_addL, q_addT, q_sub, q_ltI, q_leI, q_gtI, q_geI, q_ltS, q_eqI, q_neI, q_ixL, q_ixT, q_max2, q_min2, q_lenL, q_lenT, q_lenS, q_tupL, q_tupT, q_lstT, q_lstL, q_revT, q_revL, q_notV, q_intB, q_isN, q_notN, q_slT, q_slL, at_0, at_1, at_2, at_3, List.length_map, valsD, Option.map_some, PyData.bool.injEq, PyData.int.injEq]
  refine ⟨_, p1, _, p2, _, p3, _, p4, _, p5, ?_⟩
  have rv : sem1 (Op1.revto 9) (PyData.list (ys.map .str)) = some (.list ((ys.map .str).drop 10).reverse) := by
    simp only [sem1]
    rw [if_pos (by simp [hy])]
  have c1 := cut_len (xs := ys.map PyData.str) none (some 10)
  have c2 := cut_len (xs := ys.map PyData.str) (some (-1)) none
  rw [List.length_map] at c1 c2
  have it : ∀ d ∈ ys.map PyData.str, Itm d := fun d hd => by
    obtain ⟨y, hy', rfl⟩ := List.mem_map.mp hd
    exact itm_str (hys y hy') (by decide)
  have ld : ((ys.map PyData.str).drop 10).reverse.length ≤ 12 := by rw [List.length_reverse, List.length_drop, List.length_map]; omega
  refine ⟨_, rv, _, by rw [q_addL, if_pos (sz (by omega))], _, rfl, _, rfl, _, rfl, _, if_pos (sz (by omega)), _, rfl, sz (by decide), _, if_pos (sz (by omega)), ?_⟩
  refine f1_ok hT h0 hl (fun y hy' => ?_) (by rw [List.length_append]; simp; omega) far_ok
  rcases List.mem_append.mp hy' with hy' | hy'
  · exact hO y hy'
  · simp only [List.mem_cons, List.not_mem_nil, or_false] at hy'
    rcases hy' with rfl | rfl | rfl | rfl
    · exact row_tup (by rw [List.length_map]; omega) it
    · refine row_tup (by rw [List.length_append]; omega) fun d hd => ?_
      rcases List.mem_append.mp hd with hd | hd
      · exact it d (cut_mem hd)
      · exact it d (List.mem_of_mem_drop (List.mem_reverse.mp hd))
    · refine row_tup (by rw [List.length_append, List.length_map]; omega) fun d hd => ?_
      rcases List.mem_append.mp hd with hd | hd
      · exact it d hd
      · exact it d (cut_mem hd)
    · exact ⟨rfl, ⟨fun _ e => (nomatch e), fun _ e => (nomatch e)⟩⟩
theorem al_ok : ∀ c ∈ ("abcdefghijkl" : Str).cps.toList, c < 128 := by decide +kernel
theorem al_len : ("abcdefghijkl" : Str).cps.toList.length = 12 := by decide +kernel
theorem a_ok : okL 1 ("a" : Str) := by
  have : (∀ c ∈ ("a" : Str).cps.toList, c < 128) ∧ ("a" : Str).length ≤ 1 := by decide +kernel
  exact this
theorem one_ok {c : Nat} (h : c < 128) : okL 1 (⟨#[c]⟩ : Str) := by
  refine ⟨fun d hd => ?_, by show (#[c] : Array Nat).size ≤ 1; simp⟩
  have e : d = c := by simpa using hd
  rw [e]; exact h
theorem lM_ok {T O : List D} {c d e f g h i : Option Slot} (hT : ∀ t ∈ T, ∃ z, t = .str z ∧ okS z) (h0 : T ≠ []) (hl : T.length ≤ 100) (hO : ∀ y ∈ O, Row y) (hl2 : O.length ≤ 100) :
    ex C8 lM (dl (some (.val (.list T))) (some (.val (.list O))) c d e f g h i) E1 := by
  simp only [lM, ex, ev, args, evA, evO, evOs, evT, evP, i_, s_, recv, true_and, List.getElem?_cons_succ, List.getElem?_cons_zero, Option.some.injEq, exists_eq_left', List.length_cons, List.length_nil, List.length_set, List.set_cons_succ, List.set_cons_zero, Nat.zero_add, Nat.reduceAdd, Nat.reduceLT, ↓reduceIte, bindT, bindTs, List.length_cons, List.length_nil, List.length_set, List.set_cons_succ, List.set_cons_zero, Nat.zero_add, Nat.reduceAdd, Nat.reduceLT, true_and, dl, q_addI, q_addS, q_addL, q_addT, q_sub, q_ltI, q_leI, q_gtI, q_geI, q_ltS, q_eqI, q_neI, q_ixL, q_ixT, q_max2, q_min2, q_lenL, q_lenT, q_lenS, q_tupL, q_tupT, q_lstT, q_lstL, q_revT, q_revL, q_notV, q_intB, q_isN, q_notN, q_slT, q_slL, at_0, at_1, at_2, at_3, List.length_map, valsD, Option.map_some, PyData.bool.injEq, PyData.int.injEq, evI, itemsD]
  refine loop_map (fun c => .str ⟨#[c]⟩) (fun c => .str ("a" ++ ⟨#[c]⟩)) ("abcdefghijkl" : Str).cps.toList _ (sz (by rw [al_len]; decide)) (fun c hc acc k' hl hk => ?_) ?_
  · refine ⟨by simp [wipeD], ?_⟩
    simp only [wipeD, bindT, bindTs, List.length_cons, List.length_nil, List.length_set, List.set_cons_succ, List.set_cons_zero, Nat.zero_add, Nat.reduceAdd, Nat.reduceLT, true_and, List.getElem?_cons_succ, List.getElem?_cons_zero]
    refine ⟨_, ?_, hl, hk⟩
    rw [q_addS, if_pos (sz (by have := a_ok.2; have := (one_ok (al_ok c hc)).2; omega))]
  · have e : (("abcdefghijkl" : Str).cps.toList.map fun c => PyData.str ("a" ++ ⟨#[c]⟩)) = (("abcdefghijkl" : Str).cps.toList.map fun c => (("a" : Str) ++ ⟨#[c]⟩)).map .str := by rw [List.map_map]; rfl
    rw [e]
    simp only [toOwn]
    refine lA_ok hT h0 hl hO hl2 (by rw [List.length_map, al_len]) fun y hy => ?_
    obtain ⟨c, hc, rfl⟩ := List.mem_map.mp hy
    exact (a_ok.add (one_ok (al_ok c hc))).mono (by decide)
theorem th_body {a c d e f g h i : Option Slot} {O : List D} {y : D} {E : En} (hl : O.length ≤ 100) (hn : ∀ ds : List D, ds.length = 3 → (∀ r ∈ ds, Row r) → E.nx (dl a (some (.val (.list (O ++ ds)))) (some (.val y)) d e f g h i)) :
    bindT (.name 4) y (dl a (some (.val (.list O))) c d e f g h i) fun δ1 => ex C8 thL δ1 E := by
  simp only [dl, C8, thL, bindT, bindTs, List.length_cons, List.length_nil, List.length_set, List.set_cons_succ, List.set_cons_zero, Nat.zero_add, Nat.reduceAdd, Nat.reduceLT, true_and, sq, ex, ev, args, evA, evO, evOs, evT, evP, i_, s_, recv, true_and, List.getElem?_cons_succ, List.getElem?_cons_zero, Option.some.injEq, exists_eq_left', List.length_cons, List.length_nil, List.length_set, List.set_cons_succ, List.set_cons_zero, Nat.zero_add, Nat.reduceAdd, Nat.reduceLT, ↓reduceIte]
  refine call_things fun ds hd hr => ⟨_, rfl, _, rfl, _, by rw [q_addL, if_pos (sz (by omega))], hn ds hd hr⟩
theorem lT_ok {T O : List D} {c d e f g h i : Option Slot} (hT : ∀ t ∈ T, ∃ z, t = .str z ∧ okS z) (h0 : T ≠ []) (hl : T.length ≤ 100) (hO : ∀ y ∈ O, Row y) (hl2 : O.length ≤ 20) :
    ex C8 lT (dl (some (.val (.list T))) (some (.val (.list O))) c d e f g h i) E1 := by
  simp only [lT, ex, ev, args, evA, evO, evOs, evT, evP, i_, s_, recv, true_and, List.getElem?_cons_succ, List.getElem?_cons_zero, Option.some.injEq, exists_eq_left', List.length_cons, List.length_nil, List.length_set, List.set_cons_succ, List.set_cons_zero, Nat.zero_add, Nat.reduceAdd, Nat.reduceLT, ↓reduceIte, dl, evI]
  refine ⟨4, rfl, by decide, ?_⟩
  have key := loopS_inv (bd := fun y δ' E' => bindT (.name 4) y δ' fun δ1 => ex C8 thL δ1 E') (E := ⟨fun δ' => ex C8 lM δ' E1, E1.rt, E1.bk, E1.ct, E1.xc⟩)
    (fun ys δ => ∃ O c, δ = dl (some (.val (.list T))) (some (.val (.list O))) c d e f g h i ∧ (∀ y ∈ O, Row y) ∧ O.length + 3 * ys.length ≤ 40) (rangeD 0 4) (dl (some (.val (.list T))) (some (.val (.list O))) c d e f g h i)
    ⟨O, c, rfl, hO, by have : (rangeD 0 4).length = 4 := rfl
                       omega⟩
  refine key (fun y ys δ ⟨O, c, e, hO, hl⟩ _ E' hn _ _ _ _ => ?_) fun δ ⟨O, c, e, hO, hl3⟩ => ?_
  · subst e
    simp only [List.length_cons] at hl
    refine th_body (by omega) fun ds hd hr => hn _ ⟨_, _, rfl, fun y hy => ?_, by rw [List.length_append]; omega⟩
    rcases List.mem_append.mp hy with hy | hy
    · exact hO y hy
    · exact hr y hy
  · subst e
    simp only [List.length_nil] at hl3
    exact lM_ok hT h0 hl hO (by omega)
theorem lO_ok {T : List D} {b c d e f g h i : Option Slot} (hT : ∀ t ∈ T, ∃ z, t = .str z ∧ okS z) (h0 : T ≠ []) (hl : T.length ≤ 100) :
    ex C8 lO (dl (some (.val (.list T))) b c d e f g h i) E1 := by
  have pw : sem2 Op2.pow (PyData.int 10) (PyData.int 18) = some (.int (10 ^ 18)) := by
    simp only [sem2]
    rw [if_pos (.inl (by decide))]
    rfl
  simp only [lO, ex, ev, args, evA, evO, evOs, evT, evP, i_, s_, recv, true_and, List.getElem?_cons_succ, List.getElem?_cons_zero, Option.some.injEq, exists_eq_left', List.length_cons, List.length_nil, List.length_set, List.set_cons_succ, List.set_cons_zero, Nat.zero_add, Nat.reduceAdd, Nat.reduceLT, ↓reduceIte, bindT, bindTs, List.length_cons, List.length_nil, List.length_set, List.set_cons_succ, List.set_cons_zero, Nat.zero_add, Nat.reduceAdd, Nat.reduceLT, true_and, dl, q_addI, q_addS, q_addL, q_addT, q_sub, q_ltI, q_leI, q_gtI, q_geI, q_ltS, q_eqI, q_neI, q_ixL, q_ixT, q_max2, q_min2, q_lenL, q_lenT, q_lenS, q_tupL, q_tupT, q_lstT, q_lstL, q_revT, q_revL, q_notV, q_intB, q_isN, q_notN, q_slT, q_slL, at_0, at_1, at_2, at_3, List.length_map, valsD, Option.map_some, PyData.bool.injEq, PyData.int.injEq, evV]
  have stz : ∀ z : Str, z ∈ ([("a" : Str), ("b" : Str), ("1" : Str), ("a\n" : Str), ("\n" : Str)] : List Str) → okL 2 z := by
    intro z hz
    have : ∀ z ∈ ([("a" : Str), ("b" : Str), ("1" : Str), ("a\n" : Str), ("\n" : Str)] : List Str), (∀ c ∈ z.cps.toList, c < 128) ∧ z.length ≤ 2 := by decide +kernel
    exact this z hz
  have pl : ∀ y : D, (dsetOf y = none) → (∀ z, y ≠ .str z) → (∀ ds, y ≠ .tuple ds) → Row y := fun y h1 h2 h3 => ⟨h1, ⟨fun z e => absurd e (h2 z), fun ds e => absurd e (h3 ds)⟩⟩
  refine ⟨sz (by decide), sz (by decide), by decide, List.nodup_nil, sz (by decide), sz (by decide), sz (by decide), sz (by decide), by decide, by simp, _, pw, sz (by decide), ?_⟩
  refine lT_ok hT h0 hl (fun y hy => ?_) (by simp)
  simp only [List.mem_cons, List.not_mem_nil, or_false] at hy
  rcases hy with rfl | rfl | rfl | rfl | rfl | rfl | rfl | rfl | rfl | rfl | rfl | rfl | rfl | rfl | rfl | rfl
  · exact pl _ rfl (fun _ e => (nomatch e)) fun _ e => (nomatch e)
  · exact pl _ rfl (fun _ e => (nomatch e)) fun _ e => (nomatch e)
  · exact pl _ rfl (fun _ e => (nomatch e)) fun _ e => (nomatch e)
  · exact pl _ rfl (fun _ e => (nomatch e)) fun _ e => (nomatch e)
  · exact pl _ rfl (fun _ e => (nomatch e)) fun _ e => (nomatch e)
  · exact row_tup (by simp) fun d hd => by rw [List.mem_singleton.mp hd]; exact itm_str (stz _ (by simp)) (by decide)
  · exact row_list
  · exact pl _ rfl (fun _ e => (nomatch e)) fun _ e => (nomatch e)
  · exact row_tup (by simp) fun d hd => by simp at hd
  · exact row_list
  · refine row_tup (by simp) fun d hd => ?_
    simp only [List.mem_cons, List.not_mem_nil, or_false] at hd
    rcases hd with rfl | rfl
    · exact itm_str (stz _ (by simp)) (by decide)
    · exact itm_str (stz _ (by simp)) (by decide)
  · exact row_tup (by simp) fun d hd => by rw [List.mem_singleton.mp hd]; exact itm_str (stz _ (by simp)) (by decide)
  · exact pl _ rfl (fun _ e => (nomatch e)) fun _ e => (nomatch e)
  · exact pl _ rfl (fun _ e => (nomatch e)) fun _ e => (nomatch e)
  · exact row_str ((stz _ (by simp)).s (by decide))
  · exact row_str ((stz _ (by simp)).s (by decide))
theorem law_plain : ex cfg restB δ1 E1 := by
  rw [rest_eq]
  show ex C8 _ (dl none none none none none none none none none) E1
  simp only [ex, ev, args, evA, evO, evOs, evT, evP, i_, s_, recv, true_and, List.getElem?_cons_succ, List.getElem?_cons_zero, Option.some.injEq, exists_eq_left', List.length_cons, List.length_nil, List.length_set, List.set_cons_succ, List.set_cons_zero, Nat.zero_add, Nat.reduceAdd, Nat.reduceLT, ↓reduceIte, bindT, bindTs, List.length_cons, List.length_nil, List.length_set, List.set_cons_succ, List.set_cons_zero, Nat.zero_add, Nat.reduceAdd, Nat.reduceLT, true_and, dl, C8, evI]
  refine ⟨16, rfl, by decide, ?_⟩
  have hr : (rangeD 0 16).length = 16 := rfl
  refine loop_nd (fun d => ∃ z, d = .str z ∧ okS z) _ _ _ (by rw [hr]; exact sz (by decide)) (fun y _ acc k' hl hk => ⟨by simp [wipeD], ?_⟩) fun ds hd hp => ?_
  · simp only [wipeD, bindT, bindTs, List.length_cons, List.length_nil, List.length_set, List.set_cons_succ, List.set_cons_zero, Nat.zero_add, Nat.reduceAdd, Nat.reduceLT, true_and, List.getElem?_cons_succ, List.getElem?_cons_zero]
    exact call_text fun z hz => ⟨_, rfl, hl, hk _ ⟨z, rfl, hz⟩⟩
  · rw [hr] at hd
    simp only [List.nil_append, toOwn]
    exact lO_ok hp (fun e => by rw [e] at hd; simp at hd) (by omega)
end Tk
theorem PySem.Challenge.cw_tiekeep_k02_names_and_numbers_holds : PySem.Challenge.rw_tiekeep_k02_names_and_numbers.Holds :=
  law_of Tk.law_plain
