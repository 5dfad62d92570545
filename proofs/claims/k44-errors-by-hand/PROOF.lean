import PyProof.Rows.All
import Wide.All
import OpenK.AllK
import Wide.FinOn
import HandS.Zip
import KE.GoesEnumKw
import PyProof.Draws
import HandS.HeadHook4
import HandS.Walk
import PyProof.ReprRoads
import HandS.TupAny
import HandS.TupLe
import HandS.Text
import HandS.ForMost
import HandS.Exc
import HandS.IsInst
import HandS.WrittenGet
import HandS.Flow
import HandS.Style
import HandS.DictComp
import HandS.ExcOwn
import HandS.WordsExc
import HandS.Lambda
import HandS.ExcIs
import HandS.ExcValue
import HandS.List
import HandS.Dict
import HandS.StrMore
import PyProof.ReprReads
import PyProof.P3Statements
import KE.SortKeyHeap
import HandS.NoneIn
import HandS.Codes
import KE.KDictSum
import HandS.More
import HandS.SortKw
import HandS.TupSets
import KE.SortData
import HandS.Small
import HandS.HeadEnd
import PyProof.ExcBaseAll.ValueError
import HandS.TryOnly
import HandS.SetFor
import HandS.Head2
import PyProof.ReprLen
import PyProof.FitsInt
import PyProof.Rows.ReprOcc
import Wide.Once
import PySem.Challenge.RW_solvedtreads_k44_errors_by_hand
section
set_option linter.all false
set_option maxRecDepth 100000
set_option Elab.async false
set_option maxHeartbeats 1000000
/-! zip of two texts, strict. -/
namespace Mi.Z
open PySem
open PySem.Sem (wp)
abbrev IsZipB (h : Heap) (z TI TO : Addr) (f0 : Value) : Prop :=
  h.get? z = some { cls := .type "zip", dict := none, data := .fields #[f0, .bool false, .bool true, .ref TI, .ref TO], slots := #[] }
structure Apart (z TI TO i1 i2 : Addr) : Prop where
  TIz : TI ≠ z
  TOz : TO ≠ z
  i1z : i1 ≠ z
  i2z : i2 ≠ z
  TITO : TI ≠ TO
  TIi1 : TI ≠ i1
  TIi2 : TI ≠ i2
  TOi1 : TO ≠ i1
  TOi2 : TO ≠ i2
  i12 : i1 ≠ i2
section
variable {prog : Program} {w : World} {A : Around} {E : Value → Shared → Prop} {s : Shared}
theorem nextOrEnd_item {it : Addr} {x : Str} {t : Tok} {i c : Nat} {Q : Option Value → Shared → Prop} (hit : s.heap.IsStrIter it "str_ascii_iterator" x t i) (hx : x.cps[i]? = some c)
    (hQ : ∀ h', h'.IsStrIter it "str_ascii_iterator" x t (i + 1) → Heap.SameBut it s.heap h' → Q (some (.str ⟨#[c]⟩ s.toks)) { s with heap := h', toks := s.toks + 1 }) :
    wpAny (model prog w) A (Builtin.SmallTypes.nextOrEnd (.ref it)) Q E s := by
  unfold Builtin.SmallTypes.nextOrEnd
  exact wpAny_bind (wpAny_attempt (wpAny_nextOf_ascii_item hit hx fun h' a b => wpAny_pure (hQ h' a b)))
theorem nextOrEnd_end {it : Addr} {x : Str} {t : Tok} {i : Nat} {Q : Option Value → Shared → Prop} (hh : A.handled = none)
    (hit : s.heap.IsStrIter it "str_ascii_iterator" x t i) (hx : x.cps[i]? = none)
    (hQ : ∀ h', Heap.ExtBut it s.heap h' → Q none { s with heap := h' }) : wpAny (model prog w) A (Builtin.SmallTypes.nextOrEnd (.ref it)) Q E s := by
  unfold Builtin.SmallTypes.nextOrEnd
  refine wpAny_bind (wpAny_attempt (wpAny_nextOf_ascii_end hh hit hx fun h' e a b => ?_))
  obtain ⟨o, ho, hc⟩ := b
  exact wpAny_bind (wpAny_isInstance (T := "StopIteration") (b := true) ⟨o, ho, hc⟩ isSubtype_stop (wpAny_pure (hQ _ a)))
theorem next_item {z TI TO i1 i2 : Addr} {k1 k2 c1 c2 : Nat} {x y : Str} {t u : Tok} {a b : Value} {Q : Value → Shared → Prop} (D : Apart z TI TO i1 i2)
    (hz : IsZipB s.heap z TI TO .none) (hTI : IsPair s.heap TI (.ref i1) (.ref i2)) (hTO : IsPair s.heap TO a b)
    (h1 : s.heap.IsStrIter i1 "str_ascii_iterator" x t k1) (h2 : s.heap.IsStrIter i2 "str_ascii_iterator" y u k2) (hx : x.cps[k1]? = some c1) (hy : y.cps[k2]? = some c2)
    (hQ : ∀ h' t1 t2, IsZipB h' z TI TO (rawInt s.heap.objs.size) → IsPair h' TO (.str ⟨#[c1]⟩ t1) (.str ⟨#[c2]⟩ t2) → h'.IsStrIter i1 "str_ascii_iterator" x t (k1 + 1) → h'.IsStrIter i2 "str_ascii_iterator" y u (k2 + 1) → IsPair h' s.heap.objs.size (.str ⟨#[c1]⟩ t1) (.str ⟨#[c2]⟩ t2) → h'.objs.size = s.heap.objs.size + 1 →
      (∀ c o, c ≠ z → c ≠ TO → c ≠ i1 → c ≠ i2 → s.heap.get? c = some o → h'.get? c = some o) → Q (.ref s.heap.objs.size) { s with heap := h', toks := s.toks + 2 }) :
    wpAny (model prog w) A (Builtin.«zip.__next__» ⟨[.ref z], []⟩) (fun fin s' => ∃ v, fin = .done (.ret v) ∧ Q v s') E s := by
  show wpAny _ _ (field (.ref z) 2 >>= _) _ _ _
  refine wpAny_bind (wpAny_field hz rfl (x := .bool true) rfl ?_)
  show wpAny _ _ (field (.ref z) 3 >>= _) _ _ _
  refine wpAny_bind (wpAny_field hz rfl (x := .ref TI) rfl ?_)
  refine wpAny_bind (wpAny_seqItems hTI rfl ?_)
  show wpAny _ _ (Builtin.SmallTypes.ownedTupleIsFree (.ref z) >>= _) _ _ _
  refine wpAny_bind ?_
  unfold Builtin.SmallTypes.ownedTupleIsFree
  refine wpAny_bind (wpAny_field hz rfl (x := .none) rfl (wpAny_pure ?_))
  simp only [if_true]
  refine wpAny_bind (wpAny_rule ?_)
  refine wpAny_bind (wpAny_field hz rfl (x := .ref TO) rfl ?_)
  refine wpAny_bind (wpAny_setField_rec hz (by simp) fun h₁ hz₁ hs₁ => ?_)
  replace hz₁ : IsZipB h₁ z TI TO .ellipsis := hz₁
  refine wpAny_bind ?_
  simp only [List.zipIdx_cons, List.zipIdx_nil, List.forIn_cons, List.forIn_nil]
  refine wpAny_bind (wpAny_bind (wpAny_onRaise ?_))
  show wpAny _ _ (Builtin.SmallTypes.nextOrEnd (.ref i1)) _ _ _
  refine nextOrEnd_item (h1.extBut hs₁.extBut D.i1z) hx fun h₂ h1₂ hs₂ => ?_
  have hTO₂ : IsPair h₂ TO a b := hs₂.extBut _ _ D.TOi1 (hs₁.extBut _ _ D.TOz hTO)
  refine wpAny_bind (wpAny_seqItems hTO₂ rfl ?_)
  refine wpAny_bind (wpAny_updateSeq_pair hTO₂ fun h₃ hTO₃ hs₃ => ?_)
  replace hTO₃ : IsPair h₃ TO (.str ⟨#[c1]⟩ s.toks) b := hTO₃
  refine wpAny_bind (wpAny_letGo (wpAny_pure ?_))

  refine wpAny_bind (wpAny_bind (wpAny_onRaise ?_))
  show wpAny _ _ (Builtin.SmallTypes.nextOrEnd (.ref i2)) _ _ _
  refine nextOrEnd_item (((h2.extBut hs₁.extBut D.i2z).extBut hs₂.extBut D.i12.symm).extBut hs₃.extBut D.TOi2.symm) hy fun h₄ h2₄ hs₄ => ?_
  have hTO₄ : IsPair h₄ TO (.str ⟨#[c1]⟩ s.toks) b := hs₄.extBut _ _ D.TOi2 hTO₃
  refine wpAny_bind (wpAny_seqItems hTO₄ rfl ?_)
  refine wpAny_bind (wpAny_updateSeq_pair hTO₄ fun h₅ hTO₅ hs₅ => ?_)
  replace hTO₅ : IsPair h₅ TO (.str ⟨#[c1]⟩ s.toks) (.str ⟨#[c2]⟩ (s.toks + 1)) := hTO₅
  refine wpAny_bind (wpAny_letGo (wpAny_pure (wpAny_pure ?_)))

  refine wpAny_bind (wpAny_seqItems hTO₅ rfl ?_)
  refine wpAny_bind (wpAny_newTuple ?_)
  have hsz : h₅.objs.size = s.heap.objs.size := by rw [hs₅.1, hs₄.1, hs₃.1, hs₂.1, hs₁.1]
  have hz₅ : IsZipB h₅ z TI TO .ellipsis := hs₅.extBut _ _ D.TOz.symm (hs₄.extBut _ _ D.i2z.symm (hs₃.extBut _ _ D.TOz.symm (hs₂.extBut _ _ D.i1z.symm hz₁)))
  have hk₅ : ∀ c o, c ≠ z → c ≠ TO → c ≠ i1 → c ≠ i2 → s.heap.get? c = some o → h₅.get? c = some o := fun c o c1 c2 c3 c4 e =>
    hs₅.extBut _ _ c2 (hs₄.extBut _ _ c4 (hs₃.extBut _ _ c2 (hs₂.extBut _ _ c3 (hs₁.extBut _ _ c1 e))))
  have h1₅ : h₅.IsStrIter i1 "str_ascii_iterator" x t (k1 + 1) := ((h1₂.extBut hs₃.extBut D.TOi1.symm).extBut hs₄.extBut D.i12).extBut hs₅.extBut D.TOi1.symm
  have h2₅ : h₅.IsStrIter i2 "str_ascii_iterator" y u (k2 + 1) := h2₄.extBut hs₅.extBut D.TOi2.symm
  have hzlt : z < h₅.objs.size := Heap.lt_size hz₅
  show wpAny _ _ (Builtin.SmallTypes.ownedTupleHandOut (.ref z) (.ref h₅.objs.size) >>= _) _ _ _
  refine wpAny_bind ?_
  unfold Builtin.SmallTypes.ownedTupleHandOut
  have hz₆ : IsZipB (h₅.push { cls := .type "tuple", data := .seq #[.str ⟨#[c1]⟩ s.toks, .str ⟨#[c2]⟩ (s.toks + 1)] }) z TI TO .ellipsis := Heap.get?_push_of_some _ hz₅
  refine wpAny_bind (wpAny_setField_rec hz₆ (by simp) fun h₇ hz₇ hs₇ => ?_)
  replace hz₇ : IsZipB h₇ z TI TO (rawInt h₅.objs.size) := hz₇
  refine wpAny_setField_rec hz₇ (by simp) fun h₈ hz₈ hs₈ => ?_
  replace hz₈ : IsZipB h₈ z TI TO (rawInt h₅.objs.size) := hz₈
  have up : ∀ c o, c ≠ z → h₅.get? c = some o → h₈.get? c = some o := fun c o c1 e => hs₈.extBut _ _ c1 (hs₇.extBut _ _ c1 (Heap.get?_push_of_some _ e))
  have hT₈ : IsPair h₈ h₅.objs.size (.str ⟨#[c1]⟩ s.toks) (.str ⟨#[c2]⟩ (s.toks + 1)) := hs₈.extBut _ _ (Nat.ne_of_gt hzlt) (hs₇.extBut _ _ (Nat.ne_of_gt hzlt) (Heap.get?_push_size _ rfl))
  have hz8 : h₈.objs.size = h₅.objs.size + 1 := by rw [hs₈.1, hs₇.1, Heap.size_push]
  rw [hsz] at hz₈ hT₈ hz8
  refine wpAny_pure ⟨_, rfl, ?_⟩
  show Q (.ref h₅.objs.size) _
  rw [hsz]
  exact hQ h₈ _ _ hz₈ (up _ _ D.TOz hTO₅) (let ⟨o, e, r⟩ := h1₅; ⟨o, up _ _ D.i1z e, r⟩) (let ⟨o, e, r⟩ := h2₅; ⟨o, up _ _ D.i2z e, r⟩) hT₈ hz8 fun c o c1 c2 c3 c4 e => up c o c1 (hk₅ c o c1 c2 c3 c4 e)
theorem next_end {z TI TO i1 i2 : Addr} {k1 k2 : Nat} {x y : Str} {t u : Tok} {a b : Value} {Q : PySem.Fin → Shared → Prop} (hh : A.handled = none) (D : Apart z TI TO i1 i2)
    (hz : IsZipB s.heap z TI TO .none) (hTI : IsPair s.heap TI (.ref i1) (.ref i2)) (hTO : IsPair s.heap TO a b)
    (h1 : s.heap.IsStrIter i1 "str_ascii_iterator" x t k1) (h2 : s.heap.IsStrIter i2 "str_ascii_iterator" y u k2) (hx : x.cps[k1]? = none) (hy : y.cps[k2]? = none)
    (hE : ∀ h' e, (∀ c o, c ≠ z → c ≠ TO → c ≠ i1 → c ≠ i2 → s.heap.get? c = some o → h'.get? c = some o) → (∃ o, h'.get? e = some o ∧ o.cls = .type "StopIteration") → E (.ref e) { s with heap := h' }) :
    wpAny (model prog w) A (Builtin.«zip.__next__» ⟨[.ref z], []⟩) Q E s := by
  show wpAny _ _ (field (.ref z) 2 >>= _) _ _ _
  refine wpAny_bind (wpAny_field hz rfl (x := .bool true) rfl ?_)
  show wpAny _ _ (field (.ref z) 3 >>= _) _ _ _
  refine wpAny_bind (wpAny_field hz rfl (x := .ref TI) rfl ?_)
  refine wpAny_bind (wpAny_seqItems hTI rfl ?_)
  show wpAny _ _ (Builtin.SmallTypes.ownedTupleIsFree (.ref z) >>= _) _ _ _
  refine wpAny_bind ?_
  unfold Builtin.SmallTypes.ownedTupleIsFree
  refine wpAny_bind (wpAny_field hz rfl (x := .none) rfl (wpAny_pure ?_))
  simp only [if_true]
  refine wpAny_bind (wpAny_rule ?_)
  refine wpAny_bind (wpAny_field hz rfl (x := .ref TO) rfl ?_)
  refine wpAny_bind (wpAny_setField_rec hz (by simp) fun h₁ hz₁ hs₁ => ?_)
  replace hz₁ : IsZipB h₁ z TI TO .ellipsis := hz₁
  refine wpAny_bind ?_
  simp only [List.zipIdx_cons, List.zipIdx_nil, List.forIn_cons, List.forIn_nil]
  refine wpAny_bind (wpAny_bind (wpAny_onRaise ?_))
  show wpAny _ _ (Builtin.SmallTypes.nextOrEnd (.ref i1)) _ _ _
  refine nextOrEnd_end hh (h1.extBut hs₁.extBut D.i1z) hx fun h₂ hs₂ => ?_
  have hz₂ : IsZipB h₂ z TI TO .ellipsis := hs₂ _ _ D.i1z.symm hz₁
  refine wpAny_bind (wpAny_setField_rec hz₂ (by simp) fun h₃ hz₃ hs₃ => ?_)
  replace hz₃ : IsZipB h₃ z TI TO .none := hz₃
  refine wpAny_bind (wpAny_bind ?_)
  refine wpAny_bind ?_
  simp only [List.drop_succ_cons, List.drop_zero, List.zipIdx_cons, List.zipIdx_nil, List.forIn_cons, List.forIn_nil]
  refine wpAny_bind (nextOrEnd_end hh ((((h2.extBut hs₁.extBut D.i2z).extBut hs₂ D.i12.symm).extBut hs₃.extBut D.i2z)) hy fun h₄ hs₄ => ?_)
  refine wpAny_pure (wpAny_pure ?_)
  show wpAny _ _ (rule _ >>= _) _ _ _
  refine wpAny_bind (wpAny_rule ?_)
  show wpAny _ _ (newExc (.type "StopIteration") [] >>= _) _ _ _
  refine wpAny_bind ?_
  simp only [newExc, newTuple]
  refine wpAny_bind (wpAny_newObj_type ?_ (by size_fits))
  refine wpAny_bind (m := firstArgMember _ _) (wpAny_of_eq (a := Value.none) (by first | rfl | (simp only [firstArgMember]; rfl)) ?_)
  refine wpAny_newObj_type ?_ (by size_fits)
  simp only [raiseNew]
  refine wpAny_bind (wpAny_handled ?_)
  first | rw [show A.in1.handled = none from hh] | rw [hh]
  refine wpAny_bind (wpAny_pure (wpAny_throw ?_))
  refine hE _ _ (fun c o c1 c2 c3 c4 x => Heap.get?_push_of_some _ (Heap.get?_push_of_some _ (hs₄ _ _ c4 (hs₃.extBut _ _ c1 (hs₂ _ _ c3 (hs₁.extBut _ _ c1 x)))))) ⟨_, Heap.get?_push_size _ rfl, rfl⟩
theorem pyNext_item {z TI TO i1 i2 : Addr} {k1 k2 c1 c2 : Nat} {x y : Str} {t u : Tok} {a b : Value} {Q : Option Value → Shared → Prop} (D : Apart z TI TO i1 i2)
    (hz : IsZipB s.heap z TI TO .none) (hTI : IsPair s.heap TI (.ref i1) (.ref i2)) (hTO : IsPair s.heap TO a b)
    (h1 : s.heap.IsStrIter i1 "str_ascii_iterator" x t k1) (h2 : s.heap.IsStrIter i2 "str_ascii_iterator" y u k2) (hx : x.cps[k1]? = some c1) (hy : y.cps[k2]? = some c2)
    (hQ : ∀ h' t1 t2, IsZipB h' z TI TO (rawInt s.heap.objs.size) → IsPair h' TO (.str ⟨#[c1]⟩ t1) (.str ⟨#[c2]⟩ t2) → h'.IsStrIter i1 "str_ascii_iterator" x t (k1 + 1) → h'.IsStrIter i2 "str_ascii_iterator" y u (k2 + 1) → IsPair h' s.heap.objs.size (.str ⟨#[c1]⟩ t1) (.str ⟨#[c2]⟩ t2) → h'.objs.size = s.heap.objs.size + 1 →
      (∀ c o, c ≠ z → c ≠ TO → c ≠ i1 → c ≠ i2 → s.heap.get? c = some o → h'.get? c = some o) → Q (some (.ref s.heap.objs.size)) { s with heap := h', toks := s.toks + 2 }) :
    wpAny (model prog w) A (pyNext (.ref z)) Q E s := by
  have hT : s.TypeIs (.ref z) "zip" := ⟨_, hz, rfl⟩
  unfold pyNext
  exact wpAny_bind (wpAny_attempt (wpAny_callSpecial?_slot (name := Str.ofString "__next__") hT F.slot_zip_next
    (wpAny_call_entry F.slot_zip_next hT F.entry_zip_next
      (next_item D hz hTI hTO h1 h2 hx hy fun h' t1 t2 a1 a2 a3 a4 a5 a6 a7 => wpAny_pure (hQ h' t1 t2 a1 a2 a3 a4 a5 a6 a7)) (F.args_zip_next_1 _))))
theorem pyNext_end {z TI TO i1 i2 : Addr} {k1 k2 : Nat} {x y : Str} {t u : Tok} {a b : Value} {Q : Option Value → Shared → Prop} (hh : A.handled = none) (D : Apart z TI TO i1 i2)
    (hz : IsZipB s.heap z TI TO .none) (hTI : IsPair s.heap TI (.ref i1) (.ref i2)) (hTO : IsPair s.heap TO a b)
    (h1 : s.heap.IsStrIter i1 "str_ascii_iterator" x t k1) (h2 : s.heap.IsStrIter i2 "str_ascii_iterator" y u k2) (hx : x.cps[k1]? = none) (hy : y.cps[k2]? = none)
    (hQ : ∀ h', (∀ c o, c ≠ z → c ≠ TO → c ≠ i1 → c ≠ i2 → s.heap.get? c = some o → h'.get? c = some o) → Q none { s with heap := h' }) : wpAny (model prog w) A (pyNext (.ref z)) Q E s := by
  have hT : s.TypeIs (.ref z) "zip" := ⟨_, hz, rfl⟩
  unfold pyNext
  refine wpAny_bind (wpAny_attempt (wpAny_callSpecial?_slot (name := Str.ofString "__next__") hT F.slot_zip_next
    (wpAny_call_entry F.slot_zip_next hT F.entry_zip_next (next_end hh D hz hTI hTO h1 h2 hx hy fun h' e hk he => ?_) (F.args_zip_next_1 _))))
  obtain ⟨o, ho, hc⟩ := he
  refine wpAny_bind (wpAny_isInstance (T := "StopIteration") (b := true) ⟨o, ho, hc⟩ isSubtype_stop ?_)
  exact wpAny_pure (hQ _ hk)
theorem go_zip {elts : List Expr} {x1} {pos : Pos} {z TI TO T : Addr} {Q : Unit → Shared → Prop} (hz : IsZipB s.heap z TI TO (rawInt T))
    (hQ : ∀ h', IsZipB h' z TI TO .none → Heap.SameBut z s.heap h' → Q () { s with heap := h' }) :
    wpAny (model prog w) A (letOwnedTupleGo (.Tuple elts x1 pos) (.ref z) (.ref T)) Q E s := by
  unfold letOwnedTupleGo
  refine wpAny_bind (wpAny_load hz ?_)
  show wpAny _ _ (if (["enumerate", "zip", "dict_itemiterator", "dict_reverseitemiterator", "odict_iterator", "itertools.zip_longest", "itertools.pairwise"].contains "zip" &&
      (#[rawInt T, .bool false, .bool true, .ref TI, .ref TO] : Array Value)[0]? == some (rawInt T)) = true then _ else _) Q E s
  rw [if_pos (by simp)]
  refine wpAny_bind (wpAny_rule ?_)
  show wpAny _ _ (setField (.ref z) 0 .none) Q E s
  exact wpAny_setField_rec hz (by simp) fun h' hz' hs' => hQ h' hz' hs'
theorem pyIter_zip {z TI TO : Addr} {f0 : Value} {Q : Value → Shared → Prop} (hz : IsZipB s.heap z TI TO f0) (h : Q (.ref z) s) : wpAny (model prog w) A (pyIter (.ref z)) Q E s := by
  have hT : s.TypeIs (.ref z) "zip" := ⟨_, hz, rfl⟩
  refine wpAny_pyIter_slot hT F.slot_zip_iter (wpAny_call_entry F.slot_zip_iter hT F.entry_zip_iter ?_ (F.args_zip_iter_1 _))
  show wpAny _ _ (ret (.ref z)) _ _ s
  exact wpAny_pure ⟨_, rfl, "zip", _, hT, F.slot_zip_next.lookup, h⟩
end
abbrev zH1 (h : Heap) (x : Str) (t : Tok) : Heap := h.push { cls := .type "str_ascii_iterator", data := .fields #[.str x t, .int 0 0] }
abbrev zH2 (h : Heap) (x : Str) (t : Tok) (y : Str) (u : Tok) : Heap := (zH1 h x t).push { cls := .type "str_ascii_iterator", data := .fields #[.str y u, .int 0 0] }
abbrev zH3 (h : Heap) (x : Str) (t : Tok) (y : Str) (u : Tok) : Heap := (zH2 h x t y u).push { cls := .type "tuple", data := .seq #[.ref h.objs.size, .ref (zH1 h x t).objs.size] }
abbrev zH4 (h : Heap) (x : Str) (t : Tok) (y : Str) (u : Tok) : Heap := (zH3 h x t y u).push { cls := .type "tuple", data := .seq #[.none, .none] }
abbrev zH5 (h : Heap) (x : Str) (t : Tok) (y : Str) (u : Tok) : Heap := (zH4 h x t y u).push { cls := .type "zip", data := .fields #[.none, .bool false, .bool true, .ref (zH2 h x t y u).objs.size, .ref (zH3 h x t y u).objs.size] }
theorem typeCall_zip_s (a b v : Value) : checkTypeCall "zip" ⟨[a, b], [(Str.ofString "strict", v)]⟩ = pure () := by kernel_rfl
theorem newCall_zip_s (a b v : Value) : checkBuiltinCall "zip.__new__" ⟨[.type "zip", a, b], [(Str.ofString "strict", v)]⟩ = pure () := by kernel_rfl
theorem args_object_init_s (a b c v : Value) : argsOk "object.__init__" ⟨[a, b, c], [(Str.ofString "strict", v)]⟩ := by
  unfold argsOk; kernel_rfl
theorem meets_zip_newB (x y : Str) (t u : Tok) (hx : x.cps.all (· < 128) = true) (hy : y.cps.all (· < 128) = true) :
    Meets (Builtin.«zip.__new__» ⟨[.type "zip", .str x t, .str y u], [(Str.ofString "strict", .bool true)]⟩) (fun _ R s =>
      R (.ok (.ret (.ref (zH4 s.heap x t y u).objs.size))) { s with heap := zH5 s.heap x t y u }) :=
  .of_wp fun prog w A R s h => by
    obtain ⟨hp, g, d, tk, os⟩ := s
    have hsub := sub_zip
    have e1 : (Str.ofString "strict" == ("strict" : Str)) = true := by decide +kernel
    have e2 : (Str.ofString "strict" != ("strict" : Str)) = false := by decide +kernel
    wp_walk using wpAny_pyIter_ascii hx, wpAny_pyIter_ascii hy
    exact ⟨_, rfl, h⟩
end Mi.Z
end
section
set_option linter.all false
set_option maxRecDepth 100000
/-! A small language over data trees, its evaluator. -/
namespace Mi
open PySem
abbrev S := List Nat

/-- data: pen is the law's pen, exc an exception of the class with that number -/
inductive D where
  | non | bl (b : Bool) | int (i : Int) | str (x : S) | tup (xs : List D) | lst (xs : List D) | dct (kvs : List (S × D)) | pen | exc (c : Nat)
  deriving Inhabited

/-! ### runs: a value, an error of a class, no meaning, a choice of the pen -/
inductive Tr (α : Type) where
  | ok (a : α) | err (c : Nat) | stuck | take (n : Nat) (k : Nat → Tr α)
namespace Tr
variable {α β γ : Type}
def bind : Tr α → (α → Tr β) → Tr β
  | .ok a, f => f a
  | .err c, _ => .err c
  | .stuck, _ => .stuck
  | .take n k, f => .take n fun i => (k i).bind f
def noErr : Tr α → Tr α
  | .ok a => .ok a
  | .err _ => .stuck
  | .stuck => .stuck
  | .take n k => .take n fun i => (k i).noErr
/-- an error is taken -/
def catchE (h : Nat → Tr α) : Tr α → Tr α
  | .ok a => .ok a
  | .err c => h c
  | .stuck => .stuck
  | .take n k => .take n fun i => (k i).catchE h
/-- every choice leads to P (E for an error); b: how many choices may still be asked -/
def wp : Tr α → Nat → (Nat → α → Prop) → (Nat → Nat → Prop) → Prop
  | .ok a, b, P, _ => P b a
  | .err c, b, _, E => E b c
  | .stuck, _, _, _ => False
  | .take n k, b, P, E => 0 < n ∧ 0 < b ∧ ∀ i, i < n → (k i).wp (b - 1) P E
theorem wp_bind {f : α → Tr β} {P : Nat → β → Prop} {E : Nat → Nat → Prop} : ∀ (t : Tr α) (b : Nat), (t.bind f).wp b P E ↔ t.wp b (fun b' a => (f a).wp b' P E) E
  | .ok a, b => Iff.rfl
  | .err c, b => Iff.rfl
  | .stuck, b => Iff.rfl
  | .take n k, b => by
    show (0 < n ∧ 0 < b ∧ ∀ i, i < n → ((k i).bind f).wp (b - 1) P E) ↔ (0 < n ∧ 0 < b ∧ ∀ i, i < n → (k i).wp (b - 1) _ E)
    exact ⟨fun ⟨h0, h1, h⟩ => ⟨h0, h1, fun i hi => (wp_bind (k i) (b - 1)).mp (h i hi)⟩, fun ⟨h0, h1, h⟩ => ⟨h0, h1, fun i hi => (wp_bind (k i) (b - 1)).mpr (h i hi)⟩⟩
theorem wp_mono {P P' : Nat → α → Prop} {E E' : Nat → Nat → Prop} (hP : ∀ b a, P b a → P' b a) (hE : ∀ b c, E b c → E' b c) : ∀ (t : Tr α) (b : Nat), t.wp b P E → t.wp b P' E'
  | .ok a, b, h => hP b a h
  | .err c, b, h => hE b c h
  | .stuck, b, h => h
  | .take n k, b, h => ⟨h.1, h.2.1, fun i hi => wp_mono hP hE (k i) (b - 1) (h.2.2 i hi)⟩
theorem wp_catchE {h : Nat → Tr α} {P : Nat → α → Prop} {E : Nat → Nat → Prop} : ∀ (t : Tr α) (b : Nat), (t.catchE h).wp b P E ↔ t.wp b P (fun b c => (h c).wp b P E)
  | .ok a, b => Iff.rfl
  | .err c, b => Iff.rfl
  | .stuck, b => Iff.rfl
  | .take n k, b => by
    show (0 < n ∧ 0 < b ∧ ∀ i, i < n → ((k i).catchE h).wp (b - 1) P E) ↔ (0 < n ∧ 0 < b ∧ ∀ i, i < n → (k i).wp (b - 1) P _)
    exact ⟨fun ⟨h0, h1, h2⟩ => ⟨h0, h1, fun i hi => (wp_catchE (k i) (b - 1)).mp (h2 i hi)⟩, fun ⟨h0, h1, h2⟩ => ⟨h0, h1, fun i hi => (wp_catchE (k i) (b - 1)).mpr (h2 i hi)⟩⟩
theorem wp_noErr {P : Nat → α → Prop} {E : Nat → Nat → Prop} : ∀ (t : Tr α) (b : Nat), t.noErr.wp b P E ↔ t.wp b P (fun _ _ => False)
  | .ok a, b => Iff.rfl
  | .err c, b => Iff.rfl
  | .stuck, b => Iff.rfl
  | .take n k, b => by
    show (0 < n ∧ 0 < b ∧ ∀ i, i < n → ((k i).noErr).wp (b - 1) P E) ↔ (0 < n ∧ 0 < b ∧ ∀ i, i < n → (k i).wp (b - 1) P _)
    exact ⟨fun ⟨h0, h1, h⟩ => ⟨h0, h1, fun i hi => (wp_noErr (k i) (b - 1)).mp (h i hi)⟩, fun ⟨h0, h1, h⟩ => ⟨h0, h1, fun i hi => (wp_noErr (k i) (b - 1)).mpr (h i hi)⟩⟩
theorem bind_assoc {f : α → Tr β} {g : β → Tr γ} : ∀ (t : Tr α), (t.bind f).bind g = t.bind fun a => (f a).bind g
  | .ok a => rfl
  | .err c => rfl
  | .stuck => rfl
  | .take n k => congrArg (Tr.take n) (funext fun i => bind_assoc (k i))
theorem ok_bind {a : α} {f : α → Tr β} : (Tr.ok a).bind f = f a := rfl
theorem err_bind {c : Nat} {f : α → Tr β} : (Tr.err c : Tr α).bind f = .err c := rfl
theorem stuck_bind {f : α → Tr β} : (Tr.stuck : Tr α).bind f = .stuck := rfl
theorem bind_ok : ∀ (t : Tr α), t.bind Tr.ok = t
  | .ok a => rfl
  | .err c => rfl
  | .stuck => rfl
  | .take n k => congrArg (Tr.take n) (funext fun i => bind_ok (k i))
end Tr
open Tr

def line : Nat := 16777216

/-! ### data -/
mutual
def imm : D → Bool
  | .tup xs => immAll xs
  | .lst _ => false
  | .dct _ => false
  | _ => true
def immAll : List D → Bool
  | [] => true
  | x :: xs => imm x && immAll xs
end
mutual
/-- as the library's data (isData data only) -/
def py : D → PyData
  | .non => .none
  | .bl b => .bool b
  | .int i => .int i
  | .str x => .str ⟨x.toArray⟩
  | .tup xs => .tuple (pyAll xs)
  | .lst xs => .list (pyAll xs)
  | .dct _ => .none
  | .pen => .none
  | .exc _ => .none
def pyAll : List D → List PyData
  | [] => []
  | x :: xs => py x :: pyAll xs
end
mutual
/-- data without dicts, pen, exceptions -/
def isData : D → Bool
  | .tup xs => dataAll xs
  | .lst xs => dataAll xs
  | .dct _ => false
  | .pen => false
  | .exc _ => false
  | _ => true
def dataAll : List D → Bool
  | [] => true
  | x :: xs => isData x && dataAll xs
end
mutual
def depth : D → Nat
  | .tup xs => 1 + depthAll xs
  | .lst xs => 1 + depthAll xs
  | _ => 0
def depthAll : List D → Nat
  | [] => 0
  | x :: xs => max (depth x) (depthAll xs)
end
mutual
/-- == of isData data -/
def eqD : D → D → Bool
  | .non, .non => true
  | .bl a, .bl b => a == b
  | .bl a, .int j => (if a then 1 else 0) == j
  | .int i, .bl b => i == (if b then 1 else 0)
  | .int i, .int j => i == j
  | .str x, .str y => x == y
  | .tup xs, .tup ys => eqDs xs ys
  | .lst xs, .lst ys => eqDs xs ys
  | _, _ => false
def eqDs : List D → List D → Bool
  | [], [] => true
  | x :: xs, y :: ys => eqD x y && eqDs xs ys
  | _, _ => false
end
def flat : D → Bool
  | .non => true
  | .bl _ => true
  | .int _ => true
  | .str _ => true
  | _ => false
def look (kvs : List (S × D)) (k : S) : Option D := (kvs.find? fun kv => decide (kv.1 = k)).map (·.2)
def put (kvs : List (S × D)) (k : S) (v : D) : List (S × D) :=
  if (kvs.any fun kv => decide (kv.1 = k)) = true then kvs.map (fun kv => if kv.1 = k then (kv.1, v) else kv) else kvs ++ [(k, v)]
def cut {α : Type} (xs : List α) (lo hi : Option Int) : List α := (xs.drop (HT.sIx xs.length 0 lo)).take (HT.sIx xs.length xs.length hi - HT.sIx xs.length 0 lo)

/-! ### operations -/
inductive BOp where
  | add | sub | mul | mod | fdiv | pow
inductive COp where
  | lt | le | gt | ge | eq | ne | isin | notin
def truth : D → Tr Bool
  | .non => .ok false
  | .bl b => .ok b
  | .int i => .ok (i != 0)
  | .str x => .ok (!x.isEmpty)
  | .tup xs => .ok (!xs.isEmpty)
  | .lst xs => .ok (!xs.isEmpty)
  | .dct _ => .stuck
  | _ => .stuck
def opAdd : D → D → Tr D
  | .int i, .int j => .ok (.int (i + j))
  | .str x, .str y => if x.length + y.length ≤ line then .ok (.str (x ++ y)) else .stuck
  | .lst x, .lst y => if x.length + y.length ≤ line then .ok (.lst (x ++ y)) else .stuck
  | .tup x, .tup y => if x.length + y.length ≤ line then .ok (.tup (x ++ y)) else .stuck
  | _, _ => .stuck
def opSub : D → D → Tr D
  | .int i, .int j => .ok (.int (i - j))
  | _, _ => .stuck
def opMul : D → D → Tr D
  | .int i, .int j => if (-(2 ^ 64) < i ∧ i < 2 ^ 64) ∨ (-(2 ^ 64) < j ∧ j < 2 ^ 64) then .ok (.int (i * j)) else .stuck
  | .str x, .int k => if 0 ≤ k ∧ k < 2 ^ 62 ∧ x.length * k.toNat ≤ line then .ok (.str (List.replicate k.toNat x).flatten) else .stuck
  | .lst x, .int k => if 0 ≤ k ∧ k < 2 ^ 62 ∧ x.length * k.toNat ≤ line then .ok (.lst (List.replicate k.toNat x).flatten) else .stuck
  | _, _ => .stuck
def opMod : D → D → Tr D
  | .int i, .int j => if 0 < j then .ok (.int (i % j)) else .stuck
  | _, _ => .stuck
def opFdiv : D → D → Tr D
  | .int i, .int j => if 0 < j ∧ j < 1073741824 then .ok (.int (i / j)) else .stuck
  | _, _ => .stuck
def opPow : D → D → Tr D
  | .int i, .int j => if 0 ≤ j ∧ j ≤ 1000000 ∧ i.natAbs < 2 ^ 64 then .ok (.int (i ^ j.toNat)) else .stuck
  | _, _ => .stuck
def BOp.run : BOp → D → D → Tr D
  | .add => opAdd
  | .sub => opSub
  | .mul => opMul
  | .mod => opMod
  | .fdiv => opFdiv
  | .pow => opPow
def opNeg : D → Tr D
  | .int i => .ok (.int (-i))
  | _ => .stuck
def opLt : D → D → Tr D
  | .int i, .int j => .ok (.bl (decide (i < j)))
  | .str x, .str y => .ok (.bl (decide (x < y)))
  | _, _ => .stuck
def opLe : D → D → Tr D
  | .int i, .int j => .ok (.bl (decide (i ≤ j)))
  | _, _ => .stuck
def opGt : D → D → Tr D
  | .int i, .int j => .ok (.bl (decide (j < i)))
  | _, _ => .stuck
def opGe : D → D → Tr D
  | .int i, .int j => .ok (.bl (decide (j ≤ i)))
  | _, _ => .stuck
def opEq (a b : D) : Tr D := if isData a = true ∧ isData b = true ∧ depth a ≤ 60 ∧ depth b ≤ 60 then .ok (.bl (eqD a b)) else .stuck
def opNe (a b : D) : Tr D := if isData a = true ∧ isData b = true ∧ depth a ≤ 60 ∧ depth b ≤ 60 then .ok (.bl (!eqD a b)) else .stuck
def opIn (neg : Bool) : D → D → Tr D
  | .str k, .dct kvs => .ok (.bl (xor neg (look kvs k).isSome))
  | .str x, .str y => (match x with
    | [c] => .ok (.bl (xor neg (decide (c ∈ y))))
    | _ => .stuck)
  | x, .tup ys => if flat x = true ∧ ys.all flat = true then .ok (.bl (xor neg (ys.any fun y => eqD y x))) else .stuck
  | x, .lst ys => if flat x = true ∧ ys.all flat = true then .ok (.bl (xor neg (ys.any fun y => eqD y x))) else .stuck
  | _, _ => .stuck
def COp.run : COp → D → D → Tr D
  | .lt => opLt
  | .le => opLe
  | .gt => opGt
  | .ge => opGe
  | .eq => opEq
  | .ne => opNe
  | .isin => opIn false
  | .notin => opIn true
def opIx : D → D → Tr D
  | .lst xs, .int i => (match L2.atI xs i with
    | some d => .ok d
    | none => .stuck)
  | .tup xs, .int i => (match L2.atI xs i with
    | some d => .ok d
    | none => .stuck)
  | .str xs, .int i => (match L2.atI xs i with
    | some c => .ok (.str [c])
    | none => .stuck)
  | .dct kvs, .str k => (match look kvs k with
    | some d => .ok d
    | none => .stuck)
  | _, _ => .stuck
def opPart : D → Tr (Option Int)
  | .int i => .ok (some i)
  | _ => .stuck
def opSl (lo hi : Option Int) : D → Tr D
  | .str x => .ok (.str (cut x lo hi))
  | .lst x => .ok (.lst (cut x lo hi))
  | .tup x => .ok (.tup (cut x lo hi))
  | _ => .stuck
def opRev : D → Tr D
  | .str x => .ok (.str x.reverse)
  | .lst x => .ok (.lst x.reverse)
  | _ => .stuck
/-- built-in types as the second part of isinstance -/
inductive Ty where
  | str | int | bool | tuple | list
def tyIs : Ty → D → Tr Bool
  | _, .pen => .stuck
  | _, .exc _ => .stuck
  | .str, .str _ => .ok true
  | .int, .int _ => .ok true
  | .int, .bl _ => .ok true
  | .bool, .bl _ => .ok true
  | .tuple, .tup _ => .ok true
  | .list, .lst _ => .ok true
  | _, _ => .ok false
/-! built-in functions of values -/
inductive Bi where
  | len | all | tuple | list | int | abs | repr | mx | mn
def allB : List D → Option Bool
  | [] => some true
  | .bl b :: r => (allB r).map fun c => b && c
  | _ :: _ => none
def strL : List D → Option (List S)
  | [] => some []
  | .str x :: r => (strL r).map fun l => x :: l
  | _ :: _ => none
def joinS (sep : S) : List S → S
  | [] => []
  | [x] => x
  | x :: r => x ++ sep ++ joinS sep r
/-- the order of places: by length, then by signs -/
def leP (a b : S) : Bool := decide (a.length < b.length) || (decide (a.length = b.length) && !decide (b < a))
/-- places in order (stable) -/
def sortP (l : List S) : List S := l.mergeSort leP
def opLen : D → Tr D
  | .str x => .ok (.int x.length)
  | .lst x => .ok (.int x.length)
  | .tup x => .ok (.int x.length)
  | .dct x => .ok (.int x.length)
  | _ => .stuck
def opAll : D → Tr D
  | .lst xs => (match allB xs with
    | some b => .ok (.bl b)
    | none => .stuck)
  | _ => .stuck
def items : D → Tr (List D)
  | .lst xs => .ok xs
  | .tup xs => .ok xs
  | .str x => .ok (x.map fun c => .str [c])
  | _ => .stuck
/-- what sorted(.., key=place_key) takes -/
def placesOf : D → Option (List S)
  | .lst xs => strL xs
  | .tup xs => strL xs
  | .dct kvs => some (kvs.map (·.1))
  | _ => none
def opSortk (d : D) : Tr D := match placesOf d with
  | some l => .ok (.lst ((sortP l).map .str))
  | none => .stuck
/-- pairs of an int and a text -/
abbrev Q2 := Int × S
def pairL : List D → Option (List Q2)
  | [] => some []
  | .tup [.int n, .str x] :: r => (pairL r).map fun l => (n, x) :: l
  | _ :: _ => none
def ddQ : List Q2 → List Q2
  | [] => []
  | q :: r => if q ∈ r then ddQ r else q :: ddQ r
def leQ (a b : Q2) : Bool := decide (a.1 < b.1) || (decide (a.1 = b.1) && !decide (b.2 < a.2))
def qD (q : Q2) : D := .tup [.int q.1, .str q.2]
/-- sorted(set(..)) of pairs -/
def opSset : D → Tr D
  | .lst xs => (match pairL xs with
    | some l => if (ddQ l).length ≤ 1000 then .ok (.lst (((ddQ l).mergeSort leQ).map qD)) else .stuck
    | none => .stuck)
  | _ => .stuck
/-- where a text stands in another one -/
def opIndex (x : S) : D → Tr D
  | .str y => (match Txt.index0 ⟨x.toArray⟩ ⟨y.toArray⟩ with
    | some k => .ok (.int (k : Nat))
    | none => .stuck)
  | _ => .stuck
def asDct : D → Tr (List (S × D))
  | .dct kvs => .ok kvs
  | _ => .stuck
/-- d.get(k, v) -/
def opGet (kvs : List (S × D)) : D → D → Tr D
  | .str k, v => .ok ((look kvs k).getD v)
  | _, _ => .stuck
def lowC (c : Nat) : Nat := if 65 ≤ c ∧ c ≤ 90 then c + 32 else c
def upC (c : Nat) : Nat := if 97 ≤ c ∧ c ≤ 122 then c - 32 else c
/-- the text of plain data -/
def opRepr (d : D) : Tr D := if isData d = true ∧ (py d).depth ≤ 60 ∧ (py d).showable = true ∧ (py d).hasDict = false ∧ (py d).shown.length ≤ line ∧ (py d).shown.cps.toList.all (fun c => decide (c < 0x110000)) = true then .ok (.str (py d).shown.cps.toList) else .stuck
def Bi.run : Bi → List D → Tr D
  | .len, [d] => opLen d
  | .all, [d] => opAll d
  | .tuple, [.lst xs] => .ok (.tup xs)
  | .tuple, [.tup xs] => .ok (.tup xs)
  | .list, [.lst xs] => .ok (.lst xs)
  | .list, [.tup xs] => .ok (.lst xs)
  | .int, [.int i] => .ok (.int i)
  | .abs, [.int i] => .ok (.int (if i < 0 then -i else i))
  | .repr, [d] => opRepr d
  | .mx, [.lst [.int i, .int j]] => .ok (.int (if i ≤ j then j else i))
  | .mn, [.lst [.int i, .int j]] => .ok (.int (if i ≤ j then i else j))
  | _, _ => .stuck
def opJoin (sep : S) : D → Tr D
  | .lst xs => (match strL xs with
    | some l => if (l.map List.length).sum + l.length * sep.length ≤ line then .ok (.str (joinS sep l)) else .stuck
    | none => .stuck)
  | _ => .stuck
def opCase (up : Bool) : S → Tr D
  | [c] => if c < 128 then .ok (.str [if up = true then upC c else lowC c]) else .stuck
  | _ => .stuck

/-- two lists put together -/
def opCat : D → D → Tr D
  | .lst x, .lst y => if x.length + y.length ≤ line then .ok (.lst (x ++ y)) else .stuck
  | _, _ => .stuck

/-! ### the language -/
/-- a target: one name, a tuple of names -/
inductive Tg where
  | nm (i : Nat)
  | tp (is : List Nat)
/-- a class that isinstance is asked for: an own exception class, ValueError, LookupError, ArithmeticError, TypeError -/
inductive XQ where
  | own (i : Nat) | val | look | arit | typ
  deriving DecidableEq
mutual
inductive E where
  | var (i : Nat)
  | cst (d : D)
  | bin (o : BOp) (a b : E)
  | neg (a : E)
  | not (a : E)
  | and (a b : E)
  | or (a b : E)
  | cmp (o : COp) (a b : E)
  | chain (o o' : COp) (a b c : E)
  | isN (neg : Bool) (a : E)
  | isB (neg : Bool) (v : Bool) (a : E)
  | ife (t a b : E)
  | tup (es : Es)
  | lst (es : Es)
  | dct0
  | dct1 (k v : E)
  | call (f : Nat) (es : Es)
  | callK (f : Nat) (ks : List Str) (pm : List Nat) (es : Es)
  | bi (f : Bi) (es : Es)
  | isi (T : Ty) (a : E)
  | ix (a i : E)
  | sl0 (a : E)
  | slT (a hi : E)
  | slF (a lo : E)
  | slB (a lo hi : E)
  | rev (a : E)
  | join (a e : E)
  | low (up : Bool) (a : E)
  | sortk (a : E)
  | bad
  | inTab (neg : Bool) (t : Nat) (a : E)
  | getTab (t : Nat) (a : E)
  | lc (s : Src) (g : Tg) (e : E)
  | lcIf (s : Src) (g : Tg) (c e : E)
  | dc (s : Src) (g : Tg) (k v : E)
  | dcIf (s : Src) (g : Tg) (c k v : E)
  | cat (a b : E)
  | sset (a : E)
  | index (a b : E)
  | dget (a b c : E)
  /-- X(e), X the exception class i -/
  | mkx (i : Nat) (e : E)
  /-- isinstance(a, x): ys are the exception classes under x -/
  | isX (q : XQ) (ys : List Nat) (a : E)
  /-- a def that calls what it is handed: m, whether it tells what that tells; ws, what it tells for an error -/
  | lamc (m : Bool) (ws : List (Nat × S)) (e : E)
inductive Es where
  | nil
  | cons (e : E) (es : Es)
inductive Src where
  | it (e : E)
  | rng1 (e : E)
  | rng2 (a b : E)
  | enum (e : E)
  | zip (a b : E)
  | zipS (a b : E)
  | zipT (a b : E)
end
abbrev Ga := List (Option D)
abbrev Cl := Nat → List D → Tr D
abbrev Tabs := List (List (S × S))
def bindTg (d : D) (g : Tg) (Γ : Ga) : Option Ga := match g with
  | .nm i => some (Γ.set i (some d))
  | .tp is => (match d with
    | .tup ds => if ds.length = is.length then some ((is.zip ds).foldl (fun Γ p => Γ.set p.1 (some p.2)) Γ) else none
    | _ => none)
/-- a comprehension's turns: f gives the item's value, or none where the test fails -/
def mapT (f : D → Tr (Option D)) : List D → Tr (List D)
  | [] => .ok []
  | d :: r => (f d).bind fun o => (mapT f r).bind fun l => .ok (match o with
    | some x => x :: l
    | none => l)
def putAll (f : D → Tr (S × D)) : List D → List (S × D) → Tr (List (S × D))
  | [], kvs => .ok kvs
  | d :: r, kvs => (f d).bind fun p => if kvs.length < line then putAll f r (put kvs p.1 p.2) else .stuck
def putAllO (f : D → Tr (Option (S × D))) : List D → List (S × D) → Tr (List (S × D))
  | [], kvs => .ok kvs
  | d :: r, kvs => (f d).bind fun o => match o with
    | some p => if kvs.length < line then putAllO f r (put kvs p.1 p.2) else .stuck
    | none => putAllO f r kvs
def rngL (lo hi : Int) : List D := (List.range (hi - lo).toNat).map fun (i : Nat) => .int (lo + (i : Int))
def enumL : Nat → List D → List D
  | _, [] => []
  | i, d :: r => .tup [.int (i : Int), d] :: enumL (i + 1) r
def zipL : List D → List D → List D
  | x :: xs, y :: ys => .tup [x, y] :: zipL xs ys
  | _, _ => []
def opZip : D → D → Tr (List D)
  | .lst x, .lst y => .ok (zipL x y)
  | .tup x, .tup y => .ok (zipL x y)
  | _, _ => .stuck
def strsL (x : S) : List D := x.map fun c => .str [c]
def opZipS : D → D → Tr (List D)
  | .str x, .str y => if x.all (fun c => decide (c < 128)) = true ∧ y.all (fun c => decide (c < 128)) = true ∧ x.length = y.length then .ok (zipL (strsL x) (strsL y)) else .stuck
  | _, _ => .stuck
def opZipT : D → D → Tr (List D)
  | .str x, .str y => if x.all (fun c => decide (c < 128)) = true ∧ y.all (fun c => decide (c < 128)) = true then .ok (zipL (strsL x) (strsL y)) else .stuck
  | _, _ => .stuck
def asBool : D → Tr Bool
  | .bl b => .ok b
  | _ => .stuck
def asStr : D → Tr S
  | .str b => .ok b
  | _ => .stuck
def isTr (v : Bool) : D → Bool
  | .bl b => b == v
  | _ => false
def isNon : D → Bool
  | .non => true
  | _ => false
def lookT (t : List (S × S)) (k : S) : Option S := (t.find? fun kv => decide (kv.1 = k)).map (·.2)
/-- what the word for nothing raised is -/
def fineS : S := [102, 105, 110, 101]
def lamV (m : Bool) (d : D) : D := match m with
  | true => d
  | false => .str fineS
def lookW : List (Nat × S) → Nat → Option S
  | [], _ => none
  | (j, w) :: r, i => if i = j then some w else lookW r i
def lamT (m : Bool) (ws : List (Nat × S)) (t : Tr D) : Tr D := (t.bind fun d => .ok (lamV m d)).catchE fun i => match lookW ws i with
  | some w => .ok (.str w)
  | none => .stuck
def opIsX (ys : List Nat) : D → Tr D
  | .exc i => .ok (.bl (ys.contains i))
  | _ => .stuck
mutual
/-- the value of an expression: cl: the defs called, tb: the module's tables -/
def ev (cl : Cl) (tb : Tabs) : E → Ga → Tr D
  | .var i, Γ => (match Γ[i]? with
    | some (some d) => .ok d
    | _ => .stuck)
  | .cst d, _ => .ok d
  | .bin o a b, Γ => (ev cl tb a Γ).bind fun x => (ev cl tb b Γ).bind fun y => o.run x y
  | .neg a, Γ => (ev cl tb a Γ).bind opNeg
  | .not a, Γ => (ev cl tb a Γ).bind fun x => (truth x).bind fun b => .ok (.bl (!b))
  | .and a b, Γ => (ev cl tb a Γ).bind fun x => (asBool x).bind fun c => match c with
    | true => (ev cl tb b Γ).bind fun y => (asBool y).bind fun d => .ok (.bl d)
    | false => .ok (.bl false)
  | .or a b, Γ => (ev cl tb a Γ).bind fun x => (asBool x).bind fun c => match c with
    | true => .ok (.bl true)
    | false => (ev cl tb b Γ).bind fun y => (asBool y).bind fun d => .ok (.bl d)
  | .cmp o a b, Γ => (ev cl tb a Γ).bind fun x => (ev cl tb b Γ).bind fun y => o.run x y
  | .chain o o' a b c, Γ => (ev cl tb a Γ).bind fun x => (ev cl tb b Γ).bind fun y => (o.run x y).bind fun r => (asBool r).bind fun k => match k with
    | true => (ev cl tb c Γ).bind fun z => o'.run y z
    | false => .ok (.bl false)
  | .isN neg a, Γ => (ev cl tb a Γ).bind fun x => .ok (.bl (xor neg (isNon x)))
  | .isB neg v a, Γ => (ev cl tb a Γ).bind fun x => (asBool x).bind fun k => .ok (.bl (xor neg (k == v)))
  | .ife t a b, Γ => (ev cl tb t Γ).bind fun x => (truth x).bind fun c => match c with
    | true => ev cl tb a Γ
    | false => ev cl tb b Γ
  | .tup es, Γ => (evs cl tb es Γ).bind fun xs => .ok (.tup xs)
  | .lst es, Γ => (evs cl tb es Γ).bind fun xs => .ok (.lst xs)
  | .dct0, _ => .ok (.dct [])
  | .dct1 k v, Γ => (ev cl tb k Γ).bind fun x => (ev cl tb v Γ).bind fun y => (asStr x).bind fun z => .ok (.dct [(z, y)])
  | .call f es, Γ => (evs cl tb es Γ).bind fun xs => cl f xs
  | .callK f _ pm es, Γ => (evs cl tb es Γ).bind fun xs => cl f (pm.map fun i => xs.getD i .non)
  | .bi f es, Γ => (evs cl tb es Γ).bind fun xs => f.run xs
  | .isi T a, Γ => (ev cl tb a Γ).bind fun x => (tyIs T x).bind fun b => .ok (.bl b)
  | .ix a i, Γ => (ev cl tb a Γ).bind fun x => (ev cl tb i Γ).bind fun y => opIx x y
  | .sl0 a, Γ => (ev cl tb a Γ).bind fun x => opSl none none x
  | .slT a h, Γ => (ev cl tb a Γ).bind fun x => (ev cl tb h Γ).bind fun y => (opPart y).bind fun j => opSl none j x
  | .slF a l, Γ => (ev cl tb a Γ).bind fun x => (ev cl tb l Γ).bind fun y => (opPart y).bind fun i => opSl i none x
  | .slB a l h, Γ => (ev cl tb a Γ).bind fun x => (ev cl tb l Γ).bind fun y => (opPart y).bind fun i => (ev cl tb h Γ).bind fun z => (opPart z).bind fun j => opSl i j x
  | .rev a, Γ => (ev cl tb a Γ).bind opRev
  | .join a e, Γ => (ev cl tb a Γ).bind fun x => (asStr x).bind fun z => (ev cl tb e Γ).bind fun y => opJoin z y
  | .low up a, Γ => (ev cl tb a Γ).bind fun x => (asStr x).bind fun z => opCase up z
  | .sortk a, Γ => (ev cl tb a Γ).bind opSortk
  | .bad, _ => .stuck
  | .inTab neg t a, Γ => (ev cl tb a Γ).bind fun x => (asStr x).bind fun k => .ok (.bl (xor neg (lookT (tb.getD t []) k).isSome))
  | .getTab t a, Γ => (ev cl tb a Γ).bind fun x => (asStr x).bind fun k => match lookT (tb.getD t []) k with
    | some v => .ok (.str v)
    | none => .stuck
  | .lc s g e, Γ => (evS cl tb s Γ).bind fun xs => if xs.length ≤ line then (mapT (fun d => match bindTg d g Γ with
    | some Γ1 => (ev cl tb e Γ1).noErr.bind fun x => .ok (some x)
    | none => .stuck) xs).bind fun ys => .ok (.lst ys) else .stuck
  | .lcIf s g c e, Γ => (evS cl tb s Γ).bind fun xs => if xs.length ≤ line then (mapT (fun d => match bindTg d g Γ with
    | some Γ1 => (ev cl tb c Γ1).noErr.bind fun t => (truth t).bind fun k => match k with
      | true => (ev cl tb e Γ1).noErr.bind fun x => .ok (some x)
      | false => .ok none
    | none => .stuck) xs).bind fun ys => .ok (.lst ys) else .stuck
  | .dc s g k v, Γ => (evS cl tb s Γ).bind fun xs => (putAll (fun d => match bindTg d g Γ with
    | some Γ1 => (ev cl tb k Γ1).noErr.bind fun x => (asStr x).bind fun z => (ev cl tb v Γ1).noErr.bind fun y => .ok (z, y)
    | none => .stuck) xs []).bind fun kvs => .ok (.dct kvs)
  | .dcIf s g c k v, Γ => (evS cl tb s Γ).bind fun xs => (putAllO (fun d => match bindTg d g Γ with
    | some Γ1 => (ev cl tb c Γ1).noErr.bind fun t => (truth t).bind fun k' => match k' with
      | true => (ev cl tb k Γ1).noErr.bind fun x => (asStr x).bind fun z => (ev cl tb v Γ1).noErr.bind fun y => .ok (some (z, y))
      | false => .ok none
    | none => .stuck) xs []).bind fun kvs => .ok (.dct kvs)
  | .cat a b, Γ => (ev cl tb a Γ).bind fun x => (ev cl tb b Γ).bind fun y => opCat x y
  | .sset a, Γ => (ev cl tb a Γ).bind opSset
  | .index a b, Γ => (ev cl tb a Γ).bind fun x => (asStr x).bind fun z => (ev cl tb b Γ).bind fun y => opIndex z y
  | .lamc m ws e, Γ => lamT m ws (ev cl tb e Γ)
  | .dget a b c, Γ => (ev cl tb a Γ).bind fun x => (asDct x).bind fun kvs => (ev cl tb b Γ).bind fun y => (ev cl tb c Γ).bind fun z => opGet kvs y z
  | .mkx i e, Γ => (ev cl tb e Γ).bind fun _ => .ok (.exc i)
  | .isX _ ys a, Γ => (ev cl tb a Γ).bind (opIsX ys)
def evs (cl : Cl) (tb : Tabs) : Es → Ga → Tr (List D)
  | .nil, _ => .ok []
  | .cons e es, Γ => (ev cl tb e Γ).bind fun x => (evs cl tb es Γ).bind fun xs => .ok (x :: xs)
def evS (cl : Cl) (tb : Tabs) : Src → Ga → Tr (List D)
  | .it e, Γ => (ev cl tb e Γ).bind items
  | .rng1 e, Γ => (ev cl tb e Γ).bind fun x => match x with
    | .int j => if -(2 ^ 62) ≤ j ∧ j < 2 ^ 62 then .ok (rngL 0 j) else .stuck
    | _ => .stuck
  | .rng2 a b, Γ => (ev cl tb a Γ).bind fun x => (ev cl tb b Γ).bind fun y => match x, y with
    | .int i, .int j => if -(2 ^ 62) ≤ i ∧ i < 2 ^ 62 ∧ -(2 ^ 62) ≤ j ∧ j < 2 ^ 62 then .ok (rngL i j) else .stuck
    | _, _ => .stuck
  | .enum e, Γ => (ev cl tb e Γ).bind fun x => match x with
    | .lst l => .ok (enumL 0 l)
    | _ => .stuck
  | .zip a b, Γ => (ev cl tb a Γ).bind fun x => (ev cl tb b Γ).bind fun y => opZip x y
  | .zipS a b, Γ => (ev cl tb a Γ).bind fun x => (ev cl tb b Γ).bind fun y => opZipS x y
  | .zipT a b, Γ => (ev cl tb a Γ).bind fun x => (ev cl tb b Γ).bind fun y => opZipT x y
end
/-! ### commands -/
mutual
/-- the slots that an expression reads -/
def E.ment : E → List Nat
  | .var i => [i]
  | .cst _ => []
  | .bin _ a b => a.ment ++ b.ment
  | .neg a => a.ment
  | .not a => a.ment
  | .and a b => a.ment ++ b.ment
  | .or a b => a.ment ++ b.ment
  | .cmp _ a b => a.ment ++ b.ment
  | .chain _ _ a b c => a.ment ++ (b.ment ++ c.ment)
  | .isN _ a => a.ment
  | .isB _ _ a => a.ment
  | .ife t a b => t.ment ++ (a.ment ++ b.ment)
  | .tup es => es.ment
  | .lst es => es.ment
  | .dct0 => []
  | .dct1 a b => a.ment ++ b.ment
  | .call _ es => es.ment
  | .callK _ _ _ es => es.ment
  | .bi _ es => es.ment
  | .isi _ a => a.ment
  | .ix a b => a.ment ++ b.ment
  | .sl0 a => a.ment
  | .slT a b => a.ment ++ b.ment
  | .slF a b => a.ment ++ b.ment
  | .slB a b c => a.ment ++ (b.ment ++ c.ment)
  | .rev a => a.ment
  | .join a e => a.ment ++ e.ment
  | .low _ a => a.ment
  | .sortk a => a.ment
  | .bad => []
  | .inTab _ _ a => a.ment
  | .getTab _ a => a.ment
  | .lc s _ e => s.ment ++ e.ment
  | .lcIf s _ c e => s.ment ++ (c.ment ++ e.ment)
  | .dc s _ k v => s.ment ++ (k.ment ++ v.ment)
  | .dcIf s _ c k v => s.ment ++ (c.ment ++ (k.ment ++ v.ment))
  | .cat a b => a.ment ++ b.ment
  | .sset a => a.ment
  | .index a b => a.ment ++ b.ment
  | .dget a b c => a.ment ++ (b.ment ++ c.ment)
  | .mkx _ e => e.ment
  | .isX _ _ a => a.ment
  | .lamc _ _ e => e.ment
def Es.ment : Es → List Nat
  | .nil => []
  | .cons e es => e.ment ++ es.ment
def Src.ment : Src → List Nat
  | .it e => e.ment
  | .rng1 e => e.ment
  | .rng2 a b => a.ment ++ b.ment
  | .enum e => e.ment
  | .zip a b => a.ment ++ b.ment
  | .zipS a b => a.ment ++ b.ment
  | .zipT a b => a.ment ++ b.ment
end
/-- gives a new list or dict -/
def E.fresh : E → Bool
  | .lst _ => true
  | .dct0 => true
  | .dct1 _ _ => true
  | .lc _ _ _ => true
  | .lcIf _ _ _ _ => true
  | .dc _ _ _ _ => true
  | .dcIf _ _ _ _ _ => true
  | .cat _ _ => true
  | .bi .list _ => true
  | .sortk _ => true
  | .sset _ => true
  | _ => false
mutual
inductive C where
  | asg (i : Nat) (e : E)
  | par (is : List Nat) (es : Es) (j : Nat) (e : E)
  | parF (is : List Nat) (es : Es) (j : Nat) (e : E)
  | unp (is : List Nat) (e : E)
  | seti (i : Nat) (k v : E)
  | app (i : Nat) (e : E)
  | expr (e : E)
  | ife (t : E) (a b : Cs)
  | for_ (g : Tg) (s : Src) (b : Cs)
  | whl (t : E) (b : Cs)
  /-- for t in d: d a dict -/
  | forK (g : Tg) (i : Nat) (b : Cs)
  | ret (e : E)
  | retN
  | brk
  | cont
  | pas
  | rais (c : Nat)
  /-- try: e / except (ws) as j: i = j -/
  | tryX (n : Nat) (e : E) (ws : List Nat) (i j : Nat)
  | bad
inductive Cs where
  | nil
  | cons (c : C) (cs : Cs)
end
/-- slots: the value, whether it is this run's own list or dict -/
abbrev Gs := List (Option (D × Bool))
inductive Fl where
  | next (g : Gs)
  | ret (d : D)
  | brk (g : Gs)
  | cont (g : Gs)
def visAt (ms : List Nat) : Nat → Gs → Ga
  | _, [] => []
  | k, none :: r => none :: visAt ms (k + 1) r
  | k, some (d, o) :: r => (match o && !(ms.contains k) with
    | true => none
    | false => some d) :: visAt ms (k + 1) r
/-- what an expression sees: own ones only where they are named -/
def vis (ms : List Nat) (g : Gs) : Ga := visAt ms 0 g
def clrAt (ms : List Nat) : Nat → Gs → Gs
  | _, [] => []
  | k, none :: r => none :: clrAt ms (k + 1) r
  | k, some (d, o) :: r => some (d, o && !(ms.contains k)) :: clrAt ms (k + 1) r
/-- named ones are own no more, unless what came is plain -/
def clr (b : Bool) (ms : List Nat) (g : Gs) : Gs := match b with
  | true => g
  | false => clrAt ms 0 g
def immEl : D → Bool
  | .lst xs => immAll xs
  | .dct kvs => kvs.all fun p => imm p.2
  | d => imm d
/-- none of the named ones is an own one -/
def noOwn (ms : List Nat) (g : Gs) : Bool := ms.all fun i => match g[i]? with
  | some (some (_, true)) => false
  | _ => true
def seq1 : Fl → (Gs → Tr Fl) → Tr Fl
  | .next g, f => f g
  | x, _ => .ok x
def forL (f : D → Gs → Tr Fl) : List D → Gs → Tr Fl
  | [], g => .ok (.next g)
  | d :: r, g => (f d g).bind fun x => match x with
    | .next g' => forL f r g'
    | .cont g' => forL f r g'
    | .brk g' => .ok (.next g')
    | .ret d => .ok (.ret d)
def whlL (t : Gs → Tr Bool) (f : Gs → Tr Fl) : Nat → Gs → Tr Fl
  | 0, _ => .stuck
  | n + 1, g => (t g).bind fun b => match b with
    | false => .ok (.next g)
    | true => (f g).bind fun x => match x with
      | .next g' => whlL t f n g'
      | .cont g' => whlL t f n g'
      | .brk g' => .ok (.next g')
      | .ret d => .ok (.ret d)
def Es.toL : Es → List E
  | .nil => []
  | .cons e es => e :: es.toL
def setsS (g : Gs) : List Nat → List D → Gs
  | i :: is, d :: ds => setsS (g.set i (some (d, false))) is ds
  | _, _ => g
def bindG (d : D) (g : Tg) (Γ : Gs) : Option Gs := match g with
  | .nm i => some (Γ.set i (some (d, false)))
  | .tp is => (match d with
    | .tup ds => if ds.length = is.length then some (setsS Γ is ds) else none
    | .lst ds => if ds.length = is.length then some (setsS Γ is ds) else none
    | _ => none)
def isLD : D → Bool
  | .lst _ => true
  | .dct _ => true
  | _ => false
/-- a new list or dict of plain items -/
def ownB (e : E) (d : D) : Bool := e.fresh && (isLD d && immEl d)
/-- values set, new lists and dicts as own ones -/
def setsF (g : Gs) : List Nat → Es → List D → Gs
  | i :: is, .cons e es, d :: ds => setsF (g.set i (some (d, ownB e d))) is es ds
  | _, _, _ => g
/-- each is new or plain -/
def okAll : Es → List D → Bool
  | .cons e es, d :: ds => (ownB e d || imm d) && okAll es ds
  | _, _ => true
def setO : D → D → D → Option D
  | .lst xs, .int i, v => (match L2.ixN xs.length i with
    | some j => some (.lst (xs.set j v))
    | none => none)
  | .dct kvs, .str k, v => if kvs.length < line then some (.dct (put kvs k v)) else none
  | _, _, _ => none
def most : Nat := 1000000
mutual
def ex (cl : Cl) (tb : Tabs) : C → Gs → Tr Fl
  | .asg i e, g => (ev cl tb e (vis e.ment g)).bind fun d => .ok (.next ((clr (ownB e d || imm d) e.ment g).set i (some (d, ownB e d))))
  | .par is es j e, g => (evs cl tb es (vis (es.ment ++ e.ment) g)).bind fun ds => (ev cl tb e (vis (es.ment ++ e.ment) g)).bind fun d =>
    if ds.length = is.length then .ok (.next ((setsS (clr (immAll ds && (ownB e d || imm d)) (es.ment ++ e.ment) g) is ds).set j (some (d, ownB e d)))) else .stuck
  | .parF is es j e, g => (evs cl tb es (vis (es.ment ++ e.ment) g)).bind fun ds => (ev cl tb e (vis (es.ment ++ e.ment) g)).bind fun d =>
    if ds.length = is.length ∧ (okAll es ds && (ownB e d || imm d)) = true then .ok (.next ((setsF g is es ds).set j (some (d, ownB e d)))) else .stuck
  | .unp is e, g => (ev cl tb e (vis e.ment g)).bind fun d => match bindG d (.tp is) (clr (imm d) e.ment g) with
    | some g' => .ok (.next g')
    | none => .stuck
  | .seti i k v, g => (ev cl tb v (vis v.ment g)).bind fun y => match imm y, g[i]? with
    | true, some (some (d, true)) => (ev cl tb k (vis k.ment g)).bind fun x => (match setO d x y with
      | some d' => .ok (.next (g.set i (some (d', true))))
      | none => .stuck)
    | _, _ => .stuck
  | .app i e, g => (match g[i]? with
    | some (some (.lst xs, true)) => (ev cl tb e (vis e.ment g)).bind fun y => if (imm y || noOwn e.ment g) = true ∧ xs.length < line then .ok (.next (g.set i (some (.lst (xs ++ [y]), true)))) else .stuck
    | _ => .stuck)
  | .expr e, g => (ev cl tb e (vis e.ment g)).bind fun _ => .ok (.next g)
  | .ife t a b, g => (ev cl tb t (vis t.ment g)).bind fun x => (truth x).bind fun k => match k with
    | true => exs cl tb a g
    | false => exs cl tb b g
  | .for_ t s b, g => (evS cl tb s (vis s.ment g)).bind fun xs => forL (fun d g => match bindG d t g with
    | some g' => exs cl tb b g'
    | none => .stuck) xs (clr false s.ment g)
  | .forK t i b, g => (match (vis [i] g)[i]? with
    | some (some (.dct kvs)) => (forL (fun d g => match bindG d t g with
      | some g' => exs cl tb b g'
      | none => .stuck) (kvs.map fun p => .str p.1) (clr false [i] g)).noErr
    | _ => .stuck)
  | .whl t b, g => whlL (fun g => (ev cl tb t (vis t.ment g)).bind truth) (fun g => exs cl tb b g) most g
  | .ret e, g => (ev cl tb e (vis e.ment g)).bind fun d => .ok (.ret d)
  | .retN, _ => .ok (.ret .non)
  | .brk, g => .ok (.brk g)
  | .cont, g => .ok (.cont g)
  | .pas, g => .ok (.next g)
  | .rais c, _ => .err c
  | .tryX n e ws i j, g => ((ev cl tb e (vis e.ment g)).bind fun _ => .ok (.next g)).catchE fun c => if c < n then (match ws.contains c with
    | true => .ok (.next ((g.set i (some (.exc c, false))).set j none))
    | false => .err c) else .stuck
  | .bad, _ => .stuck
def exs (cl : Cl) (tb : Tabs) : Cs → Gs → Tr Fl
  | .nil, g => .ok (.next g)
  | .cons c cs, g => (ex cl tb c g).bind fun x => seq1 x fun g' => exs cl tb cs g'
end
/-! ### defs -/
structure Df where
  n : Nat
  ps : Nat
  body : Cs
def fin : Fl → Tr D
  | .next _ => .ok .non
  | .ret d => .ok d
  | _ => .stuck
def start (n : Nat) (ds : List D) : Gs := ds.map (fun d => some (d, false)) ++ List.replicate (n - ds.length) none
/-- the pen's def -/
def takeP : List D → Tr D
  | [.pen, .int n] => if 0 < n ∧ n < 1073741824 then .take n.toNat fun i => .ok (.int i) else .stuck
  | _ => .stuck
/-- what the def f gives, k levels of calls at most; pen: which def is the pen's -/
def call (ds : List Df) (tb : Tabs) (pen : Nat) : Nat → Cl
  | 0 => fun _ _ => .stuck
  | k + 1 => fun f xs => if f = pen then (if 5 ≤ k then takeP xs else .stuck) else match ds[f]? with
    | some d => if xs.length = d.ps then (exs (call ds tb pen k) tb d.body (start d.n xs)).bind fin else .stuck
    | none => .stuck
end Mi
end
section
set_option linter.all false
set_option maxRecDepth 100000
set_option Elab.async false
/-! What stands for what: values of the layer and data. -/
namespace Mi
open PySem PySem.Spec PyProof.Rows L2

theorem line_eq : sizeLine = line := by decide +kernel
namespace Tk
/-- an exception of the class cls, without a dict, at a -/
def ExT (cls : Value) (a : Addr) : HO := .ext fun h => ∃ (oe : Obj), h.get? a = some oe ∧ Zc cls none oe ∧ ∃ vs : Array Value, oe.data = .fields vs
theorem exT_ok {P : Program} {w : World} {H : Hp} {h : Heap} {a : Addr} {cls : Value} {oe : Obj} (e : h.get? a = some oe) (z : Zc cls none oe) (d : ∃ vs : Array Value, oe.data = .fields vs) : ObjOk P w H h a (ExT cls a) :=
  ⟨⟨oe, e, z, d⟩, ⟨oe, e⟩, fun _ _ ⟨o, q, r⟩ k => ⟨o, k o q, r⟩⟩
end Tk
/-- an exception's object -/
def isEx (C a : Addr) (o : HO) : Prop := o = Tk.ExT (.ref C) a ∨ o = ExO (.ref C) a
theorem isEx.ext {C a : Addr} {o : HO} (h : isEx C a o) : ∃ phi, o = .ext phi := by
  rcases h with rfl | rfl
  · exact ⟨_, rfl⟩
  · exact ⟨_, rfl⟩
/-- the pen's object, its cells -/
structure Tbs where
  t : List (Addr × Str)
  cl : Nat → Option Addr
structure Pa (τ : Tbs) where
  p : Addr
  c : Addr
/-- the pen stands; b choices may still be asked -/
def Hk {τ : Tbs} (pa : Pa τ) (b : Nat) (H : Hp) : Prop := pa.c ≠ pa.p ∧ ∃ (ns : List Int) (at_ rest : Int), H pa.p = some (.lst [.ref pa.c, .int at_, .int rest]) ∧ H pa.c = some (.lst (ns.map V.int)) ∧ ns.length ≤ 12 ∧ 0 ≤ at_ ∧ at_ + b ≤ 1000000 ∧ LamX.Tabs τ.t H
/-- no table -/
def NT (o : HO) : Prop := ∀ ps, o ≠ .tbl ps
/-- nothing is known there, or a table -/
def Nw (H : Hp) (p : Addr) : Prop := ∀ o, H p = some o → ∃ ps, o = .tbl ps
theorem Nw.of {H : Hp} {p : Addr} (h : H p = none) : Nw H p := fun o e => by
  rw [h] at e
  cases e
theorem not_nw {H : Hp} {p : Addr} {o : HO} (e : H p = some o) (t : NT o) : ¬ Nw H p := fun h => by
  obtain ⟨ps, w⟩ := h o e
  exact t ps w
theorem Nw.ne {H : Hp} {p q : Addr} {o : HO} (e : H q = some o) (t : NT o) (h : Nw H p) : q ≠ p := fun z => by
  obtain ⟨ps, w⟩ := h o (z ▸ e)
  exact t ps w
/-- all that was tracked stands, but the pen and tables -/
structure Ex {τ : Tbs} (pa : Pa τ) (H H' : Hp) : Prop where
  keep : ∀ a o, H a = some o → a ≠ pa.p → (∀ ps, o ≠ .tbl ps) → H' a = some o
  dom : ∀ a o, H a = some o → NT o → ∃ o', H' a = some o' ∧ NT o'
section
variable {τ : Tbs} {pa : Pa τ} {H H1 H2 : Hp} {B B' : Addr → Prop}
theorem Ex.refl : Ex pa H H := ⟨fun _ _ h _ _ => h, fun _ o h t => ⟨o, h, t⟩⟩
theorem Ex.trans (x : Ex pa H H1) (y : Ex pa H1 H2) : Ex pa H H2 :=
  ⟨fun a o h n t => y.keep a o (x.keep a o h n t) n t, fun a o h t => let ⟨o', h', t'⟩ := x.dom a o h t; y.dom a o' h' t'⟩
theorem Ex.new {p : Addr} {o : HO} (h : H p = none) : Ex pa H (upd H p o) :=
  ⟨fun a u e _ _ => by rw [upd_ne (ne_of_none e h)]; exact e, fun a u e t => ⟨u, by rw [upd_ne (ne_of_none e h)]; exact e, t⟩⟩
theorem Ex.free (x : Ex pa H H1) {p : Addr} (h : Nw H1 p) : Nw H p := fun o e => by
  by_cases t : NT o
  · obtain ⟨o', e', t'⟩ := x.dom p o e t
    obtain ⟨ps, z⟩ := h o' e'
    exact (t' ps z).elim
  · exact Classical.byContradiction fun z => t fun ps w => z ⟨ps, w⟩
/-- what is neither a table nor a code object is written, or new -/
theorem tabs_put {p : Addr} {o : HO} (t : LamX.Tabs τ.t H) (hp : ∀ u, H p = some u → (∀ ps, u ≠ .tbl ps) ∧ ∀ phi, u ≠ .ext phi) : LamX.Tabs τ.t (upd H p o) := by
  intro pr hpr
  obtain ⟨ps, h1, h2, h3⟩ := t pr hpr
  refine ⟨ps, ?_, h2, fun pos cv hc => ?_⟩
  · rw [upd_ne]
    · exact h1
    · intro e
      exact (hp _ (e ▸ h1)).1 ps rfl
  · obtain ⟨c, e1, e2⟩ := h3 pos cv hc
    refine ⟨c, e1, ?_⟩
    rw [upd_ne]
    · exact e2
    · intro e
      exact (hp _ (e ▸ e2)).2 _ rfl
theorem Hk.new {b : Nat} {p : Addr} {o : HO} (k : Hk pa b H) (h : H p = none) : Hk pa b (upd H p o) := by
  obtain ⟨n, ns, at_, rest, h1, h2, h3, h4, h5, h6⟩ := k
  exact ⟨n, ns, at_, rest, by rw [upd_ne (ne_of_none h1 h)]; exact h1, by rw [upd_ne (ne_of_none h2 h)]; exact h2, h3, h4, h5, tabs_put h6 fun u e => by rw [h] at e; cases e⟩
theorem Hk.put {b : Nat} {p : Addr} {o : HO} (k : Hk pa b H) (h : p ≠ pa.p) (h' : p ≠ pa.c) (hp : ∀ u, H p = some u → (∀ ps, u ≠ .tbl ps) ∧ ∀ phi, u ≠ .ext phi) : Hk pa b (upd H p o) := by
  obtain ⟨n, ns, at_, rest, h1, h2, h3, h4, h5, h6⟩ := k
  exact ⟨n, ns, at_, rest, by rw [upd_ne h.symm]; exact h1, by rw [upd_ne h'.symm]; exact h2, h3, h4, h5, tabs_put h6 hp⟩
theorem put_lst {H : Hp} {p : Addr} {xs : List V} (h : H p = some (.lst xs)) : ∀ u, H p = some u → (∀ ps, u ≠ .tbl ps) ∧ ∀ phi, u ≠ .ext phi := fun u e => by
  rw [h] at e
  cases e
  exact ⟨(fun ps z => nomatch z), (fun phi z => nomatch z)⟩
theorem put_dct {H : Hp} {p : Addr} {xs : List (Key × V)} (h : H p = some (.dK xs)) : ∀ u, H p = some u → (∀ ps, u ≠ .tbl ps) ∧ ∀ phi, u ≠ .ext phi := fun u e => by
  rw [h] at e
  cases e
  exact ⟨(fun ps z => nomatch z), (fun phi z => nomatch z)⟩
theorem Hk.at {b : Nat} (k : Hk pa b H) : ∃ xs, H pa.p = some (.lst xs) := let ⟨_, _, _, _, h, _⟩ := k; ⟨_, h⟩
theorem Hk.le {b b' : Nat} (k : Hk pa b H) (h : b' ≤ b) : Hk pa b' H := by
  obtain ⟨n, ns, at_, rest, h1, h2, h3, h4, h5, h6⟩ := k
  exact ⟨n, ns, at_, rest, h1, h2, h3, h4, by omega, h6⟩
end
theorem rd_upd {H : Hp} {a p : Addr} {u o : HO} (n : a ≠ p) (h : Rd H a u) : Rd (upd H p o) a u := by
  rcases h with h | ⟨q, h⟩
  · exact .inl (by rw [upd_ne n]; exact h)
  · exact .inr ⟨q, by rw [upd_ne n]; exact h⟩
theorem rd_ne {H : Hp} {a p : Addr} {u : HO} (h : Rd H a u) (hp : H p = none) : a ≠ p := fun z => by
  subst z
  rcases h with h | ⟨q, h⟩ <;> (rw [hp] at h; cases h)
theorem rd_nnw {H : Hp} {a : Addr} {kvs : List (Key × V)} (h : Rd H a (.dK kvs)) : ¬ Nw H a := by
  rcases h with h | ⟨q, h⟩
  · exact not_nw h (by intro ps w; cases w)
  · exact not_nw h (by intro ps w; cases w)
/-! ### values and data. B: lists and dicts that are not to be used -/
mutual
inductive Rep {τ : Tbs} (pa : Pa τ) (B : Addr → Prop) (H : Hp) : V → D → Prop
  | non : Rep pa B H .non .non
  | bl (b : Bool) : Rep pa B H (.bl b) (.bl b)
  | int (i : Int) : Rep pa B H (.int i) (.int i)
  | str (x : S) (h : x.length ≤ line) (h2 : x.all (fun c => decide (c < 0x110000)) = true) : Rep pa B H (.str ⟨x.toArray⟩) (.str x)
  | tup {a : Addr} {vs : List V} {ds : List D} : H a = some (.tup vs) → vs.length ≤ line → RepL pa B H vs ds → Rep pa B H (.ref a) (.tup ds)
  | lst {a : Addr} {vs : List V} {ds : List D} : ¬ B a → H a = some (.lst vs) → vs.length ≤ line → RepL pa B H vs ds → Rep pa B H (.ref a) (.lst ds)
  | dct {a : Addr} {kvs : List (Key × V)} {ds : List (S × D)} : ¬ B a → Rd H a (.dK kvs) → kvs.length ≤ line → RepK pa B H kvs ds → Rep pa B H (.ref a) (.dct ds)
  | pen : Rep pa B H (.ref pa.p) .pen
  | exc {i : Nat} {C a : Addr} {o : HO} : τ.cl i = some C → H a = some o → isEx C a o → Rep pa B H (.ref a) (.exc i)
inductive RepL {τ : Tbs} (pa : Pa τ) (B : Addr → Prop) (H : Hp) : List V → List D → Prop
  | nil : RepL pa B H [] []
  | cons {v : V} {vs : List V} {d : D} {ds : List D} : Rep pa B H v d → RepL pa B H vs ds → RepL pa B H (v :: vs) (d :: ds)
inductive RepK {τ : Tbs} (pa : Pa τ) (B : Addr → Prop) (H : Hp) : List (Key × V) → List (S × D) → Prop
  | nil : RepK pa B H [] []
  | cons {k : S} {v : V} {kvs : List (Key × V)} {d : D} {ds : List (S × D)} : k.length ≤ line ∧ k.all (fun c => decide (c < 0x110000)) = true → Rep pa B H v d → RepK pa B H kvs ds → RepK pa B H ((.inr ⟨k.toArray⟩, v) :: kvs) ((k, d) :: ds)
end
section
variable {τ : Tbs} {pa : Pa τ} {H H' : Hp} {B B' : Addr → Prop}
theorem RepL.length : ∀ {vs : List V} {ds : List D}, RepL pa B H vs ds → vs.length = ds.length
  | _, _, .nil => rfl
  | _, _, .cons _ t => congrArg Nat.succ (RepL.length t)
theorem RepK.length : ∀ {vs : List (Key × V)} {ds : List (S × D)}, RepK pa B H vs ds → vs.length = ds.length
  | _, _, .nil => rfl
  | _, _, .cons _ _ t => congrArg Nat.succ (RepK.length t)
/-- a data's stand leans on lists, dicts outside of B and on tuples -/
structure Keeps (B B' : Addr → Prop) (H H' : Hp) : Prop where
  tup : ∀ a vs, H a = some (.tup vs) → H' a = some (.tup vs)
  lst : ∀ a vs, ¬ B a → H a = some (.lst vs) → H' a = some (.lst vs)
  dct : ∀ a kvs, ¬ B a → Rd H a (.dK kvs) → Rd H' a (.dK kvs)
  out : ∀ a, ¬ B a → ¬ Nw H a → ¬ B' a
  ext : ∀ a phi, H a = some (.ext phi) → H' a = some (.ext phi)
mutual
theorem Rep.keeps (k : Keeps B B' H H') : ∀ {v : V} {d : D}, Rep pa B H v d → Rep pa B' H' v d
  | _, _, .non => .non
  | _, _, .bl b => .bl b
  | _, _, .int i => .int i
  | _, _, .str x h h2 => .str x h h2
  | _, _, .tup e l r => .tup (k.tup _ _ e) l (RepL.keeps k r)
  | _, _, .lst n e l r => .lst (k.out _ n (not_nw e (by intro ps w; cases w))) (k.lst _ _ n e) l (RepL.keeps k r)
  | _, _, .dct n e l r => .dct (k.out _ n (rd_nnw e)) (k.dct _ _ n e) l (RepK.keeps k r)
  | _, _, .pen => .pen
  | _, _, .exc h e x => .exc h (by obtain ⟨phi, rfl⟩ := x.ext; exact k.ext _ _ e) x
theorem RepL.keeps (k : Keeps B B' H H') : ∀ {vs : List V} {ds : List D}, RepL pa B H vs ds → RepL pa B' H' vs ds
  | _, _, .nil => .nil
  | _, _, .cons r t => .cons (Rep.keeps k r) (RepL.keeps k t)
theorem RepK.keeps (k : Keeps B B' H H') : ∀ {vs : List (Key × V)} {ds : List (S × D)}, RepK pa B H vs ds → RepK pa B' H' vs ds
  | _, _, .nil => .nil
  | _, _, .cons l r t => .cons l (Rep.keeps k r) (RepK.keeps k t)
end
theorem Ex.keeps {b : Nat} (x : Ex pa H H') (hk : Hk pa b H) (bp : B pa.p) : Keeps B B H H' := by
  obtain ⟨xs, hp⟩ := hk.at
  exact ⟨fun a vs e => x.keep a _ e (ne_of e hp (by intro z; cases z)) (by intro ps z; cases z), fun a vs n e => x.keep a _ e (fun z => n (z ▸ bp)) (by intro ps z; cases z),
    fun a vs n e => by
      rcases e with e | ⟨q, e⟩
      · exact .inl (x.keep a _ e (fun z => n (z ▸ bp)) (by intro ps z; cases z))
      · exact .inr ⟨q, x.keep a _ e (fun z => n (z ▸ bp)) (by intro ps z; cases z)⟩, fun _ n _ => n, fun a phi e => x.keep a _ e (ne_of e hp (by intro z; cases z)) (by intro ps z; cases z)⟩
/-- fewer are banned -/
theorem Keeps.less (h : ∀ a, B' a → B a) : Keeps B B' H H := ⟨fun _ _ e => e, fun _ _ _ e => e, fun _ _ _ e => e, fun a n _ z => n (h a z), fun _ _ e => e⟩
/-- a new one is banned, laid -/
theorem Keeps.ban {p : Addr} {o : HO} (h : H p = none) : Keeps B (fun a => B a ∨ a = p) H (upd H p o) :=
  ⟨fun a vs e => by rw [upd_ne (ne_of_none e h)]; exact e, fun a vs _ e => by rw [upd_ne (ne_of_none e h)]; exact e, fun a vs _ e => rd_upd (rd_ne e h) e,
    fun a n e z => by
      rcases z with z | z
      · exact n z
      · rw [z] at e
        exact e (Nw.of h), fun a phi e => by rw [upd_ne (ne_of_none e h)]; exact e⟩
/-- a banned list or dict is written -/
theorem Keeps.write {p : Addr} {o u : HO} (bp : B p) (hp : H p = some u) (ht : ∀ vs, u ≠ .tup vs) (hx : ∀ phi, u ≠ .ext phi) : Keeps B B H (upd H p o) :=
  ⟨fun a vs e => by rw [upd_ne (ne_of e hp (fun z => ht vs z.symm))]; exact e, fun a vs n e => by rw [upd_ne (fun z => n (by rw [z]; exact bp))]; exact e, fun a vs n e => rd_upd (fun z => n (by rw [z]; exact bp)) e, fun _ n _ => n, fun a phi e => by rw [upd_ne (ne_of e hp (fun z => hx phi z.symm))]; exact e⟩

mutual
theorem Rep.imm : ∀ {v : V} {d : D}, imm d = true → Rep pa B H v d → Rep pa B' H v d
  | _, _, _, .non => .non
  | _, _, _, .bl b => .bl b
  | _, _, _, .int i => .int i
  | _, _, _, .str x h h2 => .str x h h2
  | _, _, h, .tup e l r => .tup e l (RepL.imm h r)
  | _, _, h, .lst n e l r => by cases h
  | _, _, h, .dct n e l r => by cases h
  | _, _, _, .pen => .pen
  | _, _, _, .exc h e x => .exc h e x
theorem RepL.imm : ∀ {vs : List V} {ds : List D}, immAll ds = true → RepL pa B H vs ds → RepL pa B' H vs ds
  | _, _, _, .nil => .nil
  | _, _, h, .cons r t => by
    have h' := Bool.and_eq_true_iff.mp (show (Mi.imm _ && immAll _) = true from h)
    exact .cons (Rep.imm h'.1 r) (RepL.imm h'.2 t)
end
theorem RepK.imm : ∀ {vs : List (Key × V)} {ds : List (S × D)}, (ds.all fun p => Mi.imm p.2) = true → RepK pa B H vs ds → RepK pa B' H vs ds
  | _, _, _, .nil => .nil
  | _, _, h, .cons l r t => by
    rw [List.all_cons] at h
    have h' := Bool.and_eq_true_iff.mp h
    exact .cons l (Rep.imm h'.1 r) (RepK.imm h'.2 t)
theorem RepL.get : ∀ {vs : List V} {ds : List D} {i : Nat} {d : D}, RepL pa B H vs ds → ds[i]? = some d → ∃ v, vs[i]? = some v ∧ Rep pa B H v d
  | _, _, _, _, .nil, e => by simp at e
  | _, _, 0, _, .cons r _, e => by
    simp at e
    subst e
    exact ⟨_, rfl, r⟩
  | _, _, i + 1, d, .cons _ t, e => by
    obtain ⟨v, h1, h2⟩ := RepL.get (i := i) (d := d) t (by simpa using e)
    exact ⟨v, by simpa using h1, h2⟩
theorem RepL.append : ∀ {vs us : List V} {ds es : List D}, RepL pa B H vs ds → RepL pa B H us es → RepL pa B H (vs ++ us) (ds ++ es)
  | _, _, _, _, .nil, s => s
  | _, _, _, _, .cons r t, s => .cons r (RepL.append t s)
theorem RepL.take : ∀ {vs : List V} {ds : List D} (n : Nat), RepL pa B H vs ds → RepL pa B H (vs.take n) (ds.take n)
  | _, _, 0, _ => .nil
  | _, _, _ + 1, .nil => .nil
  | _, _, n + 1, .cons r t => .cons r (RepL.take n t)
theorem RepL.drop : ∀ {vs : List V} {ds : List D} (n : Nat), RepL pa B H vs ds → RepL pa B H (vs.drop n) (ds.drop n)
  | _, _, 0, r => r
  | _, _, _ + 1, .nil => .nil
  | _, _, n + 1, .cons _ t => RepL.drop n t
theorem RepL.reverse {vs : List V} {ds : List D} (r : RepL pa B H vs ds) : RepL pa B H vs.reverse ds.reverse := by
  induction vs generalizing ds with
  | nil => cases r; exact .nil
  | cons v vs ih => cases r with
    | cons r t =>
      rw [List.reverse_cons, List.reverse_cons]
      exact (ih t).append (.cons r .nil)
theorem RepL.set : ∀ {vs : List V} {ds : List D} {v : V} {d : D} (n : Nat), RepL pa B H vs ds → Rep pa B H v d → RepL pa B H (vs.set n v) (ds.set n d)
  | _, _, _, _, _, .nil, _ => .nil
  | _, _, _, _, 0, .cons _ t, s => .cons s t
  | _, _, _, _, n + 1, .cons r t, s => .cons r (RepL.set n t s)
theorem RepL.flat : ∀ {vs : List V} {ds : List D}, RepL pa B H vs ds → ds.all flat = true → vs.all flatV = true
  | _, _, .nil, _ => rfl
  | _, _, .cons r t, h => by
    rw [List.all_cons] at h
    have h' := Bool.and_eq_true_iff.mp h
    rw [List.all_cons, RepL.flat t h'.2, Bool.and_true]
    cases r <;> first | rfl | cases h'.1
theorem Rep.flat {v : V} {d : D} (r : Rep pa B H v d) (h : flat d = true) : flatV v = true := by cases r <;> first | rfl | cases h
/-! ### as the library's data -/
variable {K : PySem.W.Frag}
mutual
theorem Rep.dp : ∀ {v : V} {d : D}, isData d = true → Rep pa B H v d → Dp K H v (py d)
  | _, _, _, .non => .non
  | _, _, _, .bl b => .bl b
  | _, _, _, .int i => .int i
  | _, _, _, .str x h h2 => .str _
  | _, _, h, .tup e l r => .tup (SqT.of e) (RepL.dp h r)
  | _, _, h, .lst n e l r => .lst (SqL.of e) (RepL.dp h r)
  | _, _, h, .dct n e l r => by cases h
  | _, _, h, .pen => by cases h
  | _, _, h, .exc _ _ _ => by cases h
theorem RepL.dp : ∀ {vs : List V} {ds : List D}, dataAll ds = true → RepL pa B H vs ds → DpAll K H vs (pyAll ds)
  | _, _, _, .nil => .nil
  | _, _, h, .cons r t => by
    have h' := Bool.and_eq_true_iff.mp (show (isData _ && dataAll _) = true from h)
    exact .cons (Rep.dp h'.1 r) (RepL.dp h'.2 t)
end
end
theorem str_inj {x y : S} : ((⟨x.toArray⟩ : Str) = ⟨y.toArray⟩) ↔ x = y := by
  constructor
  · intro h
    have h1 : x.toArray = y.toArray := Str.mk.inj h
    simpa using congrArg Array.toList h1
  · intro h
    rw [h]
theorem str_beq {x y : S} : ((⟨x.toArray⟩ : Str) == ⟨y.toArray⟩) = (x == y) := by
  by_cases h : x = y
  · subst h
    simp
  · have h2 : ¬ (⟨x.toArray⟩ : Str) = ⟨y.toArray⟩ := fun z => h (str_inj.mp z)
    rw [beq_eq_false_iff_ne.mpr h, beq_eq_false_iff_ne.mpr h2]
mutual
theorem eqv_eq : ∀ (a b : D), isData a = true → isData b = true → PyData.eqv (py a) (py b) = eqD a b
  | .non, b, _, hb => by cases b <;> first | rfl | cases hb
  | .bl x, b, _, hb => by cases b <;> first | rfl | cases hb
  | .int x, b, _, hb => by cases b <;> first | rfl | cases hb
  | .str x, b, _, hb => by
    cases b with
    | str y => exact str_beq
    | _ => first | rfl | cases hb
  | .tup x, b, ha, hb => by
    cases b with
    | tup y => exact eqvs_eq x y ha hb
    | _ => first | rfl | cases hb
  | .lst x, b, ha, hb => by
    cases b with
    | lst y => exact eqvs_eq x y ha hb
    | _ => first | rfl | cases hb
  | .dct x, b, ha, hb => by cases ha
  | .pen, b, ha, hb => by cases ha
  | .exc _, b, ha, hb => by cases ha
theorem eqvs_eq : ∀ (a b : List D), dataAll a = true → dataAll b = true → PyData.eqvAll (pyAll a) (pyAll b) = eqDs a b
  | [], [], _, _ => rfl
  | [], _ :: _, _, _ => rfl
  | _ :: _, [], _, _ => rfl
  | x :: xs, y :: ys, ha, hb => by
    have h1 := Bool.and_eq_true_iff.mp (show (isData x && dataAll xs) = true from ha)
    have h2 := Bool.and_eq_true_iff.mp (show (isData y && dataAll ys) = true from hb)
    show (PyData.eqv (py x) (py y) && PyData.eqvAll (pyAll xs) (pyAll ys)) = (eqD x y && eqDs xs ys)
    rw [eqv_eq x y h1.1 h2.1, eqvs_eq xs ys h1.2 h2.2]
end

section
variable {τ : Tbs} {pa : Pa τ} {H : Hp} {B : Addr → Prop}
mutual
theorem Rep.lay : ∀ {v : V} {d : D}, isData d = true → Rep pa B H v d → (py d).canLay0 = true
  | _, _, _, .non => rfl
  | _, _, _, .bl b => rfl
  | _, _, _, .int i => rfl
  | _, _, _, .str x h h2 => by
    show PyData.canLay0 (.str ⟨x.toArray⟩) = true
    show PyData.strOk ⟨x.toArray⟩ = true
    unfold PyData.strOk
    simpa using h2
  | _, _, h, .tup e l r => RepL.lay h r
  | _, _, h, .lst n e l r => RepL.lay h r
  | _, _, h, .dct n e l r => by cases h
  | _, _, h, .pen => by cases h
  | _, _, h, .exc _ _ _ => by cases h
theorem RepL.lay : ∀ {vs : List V} {ds : List D}, dataAll ds = true → RepL pa B H vs ds → PyData.canLayAll0 (pyAll ds) = true
  | _, _, _, .nil => rfl
  | _, _, h, .cons r t => by
    have h' := Bool.and_eq_true_iff.mp (show (isData _ && dataAll _) = true from h)
    show (PyData.canLay0 (py _) && PyData.canLayAll0 (pyAll _)) = true
    rw [Rep.lay h'.1 r, RepL.lay h'.2 t]
    rfl
end
end
mutual
theorem depth_py : ∀ d : D, isData d = true → (py d).depth = depth d
  | .non, _ => rfl
  | .bl _, _ => rfl
  | .int _, _ => rfl
  | .str _, _ => rfl
  | .tup xs, h => by
    show PyData.depthAll (pyAll xs) + 1 = 1 + depthAll xs
    rw [depths_py xs h, Nat.add_comm]
  | .lst xs, h => by
    show PyData.depthAll (pyAll xs) + 1 = 1 + depthAll xs
    rw [depths_py xs h, Nat.add_comm]
  | .dct _, h => by cases h
  | .pen, h => by cases h
  | .exc _, h => by cases h
theorem depths_py : ∀ ds : List D, dataAll ds = true → PyData.depthAll (pyAll ds) = depthAll ds
  | [], _ => rfl
  | x :: xs, h => by
    have h' := Bool.and_eq_true_iff.mp (show (isData x && dataAll xs) = true from h)
    show max (PyData.depth (py x)) (PyData.depthAll (pyAll xs)) = max (depth x) (depthAll xs)
    rw [depth_py x h'.1, depths_py xs h'.2]
end
theorem Rep.shaped {τ : Tbs} {pa : Pa τ} {H : Hp} {B : Addr → Prop} {v : V} {d : D} (h : isData d = true) (h2 : depth d ≤ 60) (r : Rep pa B H v d) : SeqAt.shaped (py d) = true := by
  unfold SeqAt.shaped
  rw [r.lay h, depth_py d h]
  simp
  omega
end Mi
end
section
set_option linter.all false
set_option maxRecDepth 100000
set_option Elab.async false
set_option maxHeartbeats 1000000
/-! The operations of values. -/
namespace Mi
open PySem PySem.Spec PyProof.Rows L2

/-- what stands around: the pen, the banned ones are tracked -/
structure Rm {τ : Tbs} (pa : Pa τ) (B : Addr → Prop) (b : Nat) (H : Hp) : Prop where
  hk : Hk pa b H
  bp : B pa.p
  bd : ∀ a, B a → ∃ o, H a = some o ∧ NT o
/-- what is wanted of a value -/
def Po {τ : Tbs} (pa : Pa τ) (B : Addr → Prop) (H : Hp) (Q : VK) : Nat → D → Prop := fun b d => ∀ v H', Ex pa H H' → Hk pa b H' → Rep pa B H' v d → Q v H'
section
variable {τ : Tbs} {pa : Pa τ} {B : Addr → Prop} {b b' : Nat} {H H' : Hp} {Q : VK}
theorem Rm.ex (r : Rm pa B b H) (x : Ex pa H H') (k : Hk pa b' H') : Rm pa B b' H' := ⟨k, r.bp, fun a h => let ⟨o, e, t⟩ := r.bd a h; x.dom a o e t⟩
theorem Rm.nb' (r : Rm pa B b H) {p : Addr} (h : Nw H p) : ¬ B p := fun z => by
  obtain ⟨o, e, t⟩ := r.bd p z
  obtain ⟨ps, w⟩ := h o e
  exact t ps w
theorem Rm.nb (r : Rm pa B b H) {p : Addr} (h : H p = none) : ¬ B p := r.nb' (Nw.of h)
theorem Rep.ex {v : V} {d : D} (x : Ex pa H H') (r : Rm pa B b H) (h : Rep pa B H v d) : Rep pa B H' v d := h.keeps (x.keeps r.hk r.bp)
theorem RepL.ex {v : List V} {d : List D} (x : Ex pa H H') (r : Rm pa B b H) (h : RepL pa B H v d) : RepL pa B H' v d := h.keeps (x.keeps r.hk r.bp)
theorem Po.ex {d : D} (x : Ex pa H H') (h : Po pa B H Q b d) : Po pa B H' Q b d := fun v H1 y k r => h v H1 (x.trans y) k r
/-- the value as it is -/
theorem Po.here {v : V} {d : D} (h : Po pa B H Q b d) (r : Rm pa B b H) (rv : Rep pa B H v d) : Q v H := h v H Ex.refl r.hk rv
/-- a new tuple -/
theorem Po.tup {vs : List V} {ds : List D} (h : Po pa B H Q b (.tup ds)) (r : Rm pa B b H) (rv : RepL pa B H vs ds) (hl : vs.length ≤ line) : ∀ p, H p = none → Q (.ref p) (upd H p (.tup vs)) := fun p hp =>
  h _ _ (Ex.new hp) (r.hk.new hp) (.tup upd_same hl (rv.ex (Ex.new hp) r))
/-- it is not locked -/
def NF (H : Hp) (a : Addr) : Prop := ∀ o u, H a ≠ some (.frz o u)
theorem NF.of {H : Hp} {a : Addr} {u : HO} (h : H a = some u) (n : ∀ o v, u ≠ .frz o v) : NF H a := fun o v z => by
  rw [h] at z
  cases z
  exact n o v rfl
theorem NF.lst {H : Hp} {a : Addr} {xs : List V} (h : H a = some (.lst xs)) : NF H a := NF.of h fun o v z => by cases z
theorem NF.dct {H : Hp} {a : Addr} {xs : List (Key × V)} (h : H a = some (.dK xs)) : NF H a := NF.of h fun o v z => by cases z
/-- what is wanted of a new list or dict -/
def PoF {τ : Tbs} (pa : Pa τ) (B : Addr → Prop) (H : Hp) (Q : VK) : Nat → D → Prop := fun b d => ∀ v H', Ex pa H H' → Hk pa b H' → Rep pa B H' v d → (∃ a, v = .ref a ∧ Nw H a ∧ NF H' a) → Q v H'
theorem PoF.ex {d : D} (x : Ex pa H H') (h : PoF pa B H Q b d) : PoF pa B H' Q b d := fun v H1 y k r ⟨a, e, n, f⟩ => h v H1 (x.trans y) k r ⟨a, e, x.free n, f⟩
theorem PoF.of {d : D} (h : Po pa B H Q b d) : PoF pa B H Q b d := fun v H1 y k r _ => h v H1 y k r
theorem PoF.lst {vs : List V} {ds : List D} (h : PoF pa B H Q b (.lst ds)) (r : Rm pa B b H) (rv : RepL pa B H vs ds) (hl : vs.length ≤ line) : ∀ p, H p = none → Q (.ref p) (upd H p (.lst vs)) := fun p hp =>
  h _ _ (Ex.new hp) (r.hk.new hp) (.lst (r.nb hp) upd_same hl (rv.ex (Ex.new hp) r)) ⟨p, rfl, Nw.of hp, NF.lst upd_same⟩
theorem Po.lst {vs : List V} {ds : List D} (h : Po pa B H Q b (.lst ds)) (r : Rm pa B b H) (rv : RepL pa B H vs ds) (hl : vs.length ≤ line) : ∀ p, H p = none → Q (.ref p) (upd H p (.lst vs)) := fun p hp =>
  h _ _ (Ex.new hp) (r.hk.new hp) (.lst (r.nb hp) upd_same hl (rv.ex (Ex.new hp) r))
end
/-- an operation on two values, as the data's -/
def rD (τ : Tbs) (f : D → D → Tr D) : R2 := fun x y H Q => ∃ (pa : Pa τ) (B : Addr → Prop) (b : Nat) (a c : D) (E : Nat → Nat → Prop), Rm pa B b H ∧ Rep pa B H x a ∧ Rep pa B H y c ∧ (f a c).wp b (Po pa B H Q) E
def rD1 (τ : Tbs) (f : D → Tr D) : V → Hp → VK → Prop := fun x H Q => ∃ (pa : Pa τ) (B : Addr → Prop) (b : Nat) (a : D) (E : Nat → Nat → Prop), Rm pa B b H ∧ Rep pa B H x a ∧ (f a).wp b (Po pa B H Q) E
def rDF (τ : Tbs) (f : D → D → Tr D) : R2 := fun x y H Q => ∃ (pa : Pa τ) (B : Addr → Prop) (b : Nat) (a c : D) (E : Nat → Nat → Prop), Rm pa B b H ∧ Rep pa B H x a ∧ Rep pa B H y c ∧ (f a c).wp b (PoF pa B H Q) E
def rDsF (τ : Tbs) (f : List D → Tr D) : List V → Hp → VK → Prop := fun xs H Q => ∃ (pa : Pa τ) (B : Addr → Prop) (b : Nat) (as : List D) (E : Nat → Nat → Prop), Rm pa B b H ∧ RepL pa B H xs as ∧ (f as).wp b (PoF pa B H Q) E
def rDs (τ : Tbs) (f : List D → Tr D) : List V → Hp → VK → Prop := fun xs H Q => ∃ (pa : Pa τ) (B : Addr → Prop) (b : Nat) (as : List D) (E : Nat → Nat → Prop), Rm pa B b H ∧ RepL pa B H xs as ∧ (f as).wp b (Po pa B H Q) E
theorem line_lt : line < 2 ^ 62 := by decide
theorem str_app {x y : S} : ((⟨x.toArray⟩ : Str) ++ ⟨y.toArray⟩ : Str) = ⟨(x ++ y).toArray⟩ := by
  show Str.append _ _ = _
  unfold Str.append
  simp
theorem str_len {x : S} : (⟨x.toArray⟩ : Str).length = x.length := by
  unfold Str.length
  simp
theorem rep_all {x : S} : ∀ k : Nat, x.all (fun c => decide (c < 0x110000)) = true → (List.replicate k x).flatten.all (fun c => decide (c < 0x110000)) = true
  | 0, _ => rfl
  | k + 1, h => by
    rw [List.replicate_succ, List.flatten_cons, List.all_append, h, rep_all k h]
    rfl
theorem rep_len {α : Type} {x : List α} : ∀ k : Nat, (List.replicate k x).flatten.length = x.length * k
  | 0 => rfl
  | k + 1 => by rw [List.replicate_succ, List.flatten_cons, List.length_append, rep_len k, Nat.mul_succ, Nat.add_comm]
theorem RepL.rep {τ : Tbs} {pa : Pa τ} {B : Addr → Prop} {H : Hp} {vs : List V} {ds : List D} (r : RepL pa B H vs ds) : ∀ k : Nat, RepL pa B H (List.replicate k vs).flatten (List.replicate k ds).flatten
  | 0 => .nil
  | k + 1 => by
    rw [List.replicate_succ, List.replicate_succ, List.flatten_cons, List.flatten_cons]
    exact r.append (RepL.rep r k)
section
variable {X : Cx}
theorem opR_cat {τ : Tbs} : OpR X (binaryOp .Add) (rDF τ opCat) := by
  intro pins s σ H x y v u Q I rx ry h
  obtain ⟨pa, B, b, a, c, E, rm, ra, rc, h⟩ := h
  cases ra with
  | lst n e l r => cases rc with
    | lst n' e' l' r' =>
      simp only [opCat] at h
      split at h
      · rename_i hl
        have hl2 := hl
        rw [← r.length, ← r'.length] at hl2
        exact op_cat pins s σ H _ _ v u Q I rx ry ⟨_, _, _, _, rfl, rfl, e, e', by rw [line_eq]; exact hl2, PoF.lst h rm (r.append r') (by rw [List.length_append]; exact hl2)⟩
      · exact h.elim
    | _ => exact h.elim
  | _ => exact h.elim
theorem opR_add {τ : Tbs} : OpR X (binaryOp .Add) (rD τ opAdd) := by
  intro pins s σ H x y v u Q I rx ry h
  obtain ⟨pa, B, b, a, c, E, rm, ra, rc, h⟩ := h
  cases ra with
  | int i => cases rc with
    | int j => exact op_add pins s σ H _ _ v u Q I rx ry ⟨i, j, rfl, rfl, Po.here h rm (.int _)⟩
    | _ => exact h.elim
  | str z hz hz2 => cases rc with
    | str z' hz' hz2' =>
      simp only [opAdd] at h
      split at h
      · rename_i hl
        refine op_add_str pins s σ H _ _ v u Q I rx ry ⟨_, _, rfl, rfl, by rw [str_len, str_len, line_eq]; exact hl, ?_⟩
        rw [str_app]
        refine Po.here h rm (.str _ (by rw [List.length_append]; exact hl) ?_)
        rw [List.all_append, hz2, hz2']
        rfl
      · exact h.elim
    | _ => exact h.elim
  | lst n e l r => cases rc with
    | lst n' e' l' r' =>
      simp only [opAdd] at h
      split at h
      · rename_i hl
        have hl2 := hl
        rw [← r.length, ← r'.length] at hl2
        exact op_cat pins s σ H _ _ v u Q I rx ry ⟨_, _, _, _, rfl, rfl, e, e', by rw [line_eq]; exact hl2, Po.lst h rm (r.append r') (by rw [List.length_append]; exact hl2)⟩
      · exact h.elim
    | _ => exact h.elim
  | tup e l r => cases rc with
    | tup e' l' r' =>
      simp only [opAdd] at h
      split at h
      · rename_i hl
        have hl2 := hl
        rw [← r.length, ← r'.length] at hl2
        refine op_catA pins s σ H _ _ v u Q I rx ry ⟨_, _, _, _, rfl, rfl, SqT.of e, SqT.of e', by rw [line_eq]; exact hl2, fun z => ?_, fun z z' => ?_, fun z z' => ?_⟩
        · subst z
          cases r
          exact Po.here h rm (.tup e' l' r')
        · subst z'
          cases r'
          rw [List.append_nil] at h
          exact Po.here h rm (.tup e l r)
        · exact Po.tup h rm (r.append r') (by rw [List.length_append]; exact hl2)
      · exact h.elim
    | _ => exact h.elim
  | _ => cases rc <;> exact h.elim
theorem opR_sub {τ : Tbs} : OpR X (binaryOp .Sub) (rD τ opSub) := by
  intro pins s σ H x y v u Q I rx ry h
  obtain ⟨pa, B, b, a, c, E, rm, ra, rc, h⟩ := h
  cases ra with
  | int i => cases rc with
    | int j => exact op_sub pins s σ H _ _ v u Q I rx ry ⟨i, j, rfl, rfl, Po.here h rm (.int _)⟩
    | _ => exact h.elim
  | _ => cases rc <;> exact h.elim
theorem strN_foldl (x : S) : ∀ (k : Nat) (acc : List Nat), List.foldl (fun a b => a ++ b) acc.toArray (List.replicate k x.toArray) = (acc ++ (List.replicate k x).flatten).toArray
  | 0, acc => by simp
  | k + 1, acc => by
    rw [List.replicate_succ, List.foldl_cons, List.replicate_succ, List.flatten_cons]
    have e : acc.toArray ++ x.toArray = (acc ++ x).toArray := by simp
    rw [e, strN_foldl x k (acc ++ x), List.append_assoc]
/-- s * k, 0 ≤ k -/
theorem op_mul_str : OpR X (binaryOp .Mult) (fun x y H Q => ∃ (z : S) (k : Int), x = .str ⟨z.toArray⟩ ∧ y = .int k ∧ 0 ≤ k ∧ k < 2 ^ 62 ∧ z.length * k.toNat ≤ line ∧ Q (.str ⟨((List.replicate k.toNat z).flatten).toArray⟩) H) := by
  intro pins s σ H x y v u Q I rx ry h
  obtain ⟨z, k, rfl, rfl, h0, h1, hl, q⟩ := h
  obtain ⟨t, rfl⟩ := rx
  obtain ⟨t', rfl⟩ := ry
  have hl0 : (⟨z.toArray⟩ : Str).length = z.length := str_len
  have hlong : Builtin.Str.tooLong ((⟨z.toArray⟩ : Str).length * k.toNat) = false := by
    unfold Builtin.Str.tooLong
    rw [hl0]
    simp
    show z.length * k.toNat ≤ sizeLine
    rw [line_eq]
    exact hl
  refine P.mul_str ?_ (fun h2 h3 => ?_) (fun _ _ => hlong) ?_
  · rw [decide_eq_false (by omega), decide_eq_false (by omega)]
    rfl
  · rw [hl0]
    have hk : 0 < k := by omega
    have h5 : (z.length : Int) * k ≤ 16777216 := by
      have e : ((z.length * k.toNat : Nat) : Int) = (z.length : Int) * k := by
        rw [Int.natCast_mul, Int.toNat_of_nonneg h0]
      rw [← e]
      exact Int.ofNat_le.mpr hl
    have h6 : (z.length : Int) ≤ (2 ^ 63 - 1) / k := by
      rw [Int.le_ediv_iff_mul_le hk]
      have h7 : (16777216 : Int) ≤ 2 ^ 63 - 1 := by decide
      exact Int.le_trans h5 h7
    exact Int.not_lt.mpr h6
  · split
    · rename_i h2
      have e : k.toNat = 0 := by omega
      rw [e] at q
      exact ⟨by decide, ⟨.str Str.empty, H, I.tok _, ⟨_, rfl⟩, q⟩⟩
    · split
      · rename_i h2 h3
        have e : (List.replicate k.toNat z).flatten = z := by
          rcases Bool.or_eq_true_iff.mp h3 with h4 | h4
          · have e1 : k = 1 := eq_of_beq h4
            subst e1
            show (List.replicate 1 z).flatten = z
            simp
          · have e1 : z.length = 0 := by
              have := eq_of_beq h4
              rw [hl0] at this
              exact this
            have e2 : z = [] := List.length_eq_zero_iff.mp e1
            subst e2
            simp
        rw [e] at q
        exact ⟨.str ⟨z.toArray⟩, H, I, ⟨_, rfl⟩, q⟩
      · have e := strN_foldl z k.toNat []
        rw [List.nil_append] at e
        have e2 : (⟨(List.replicate k.toNat z).flatten.toArray⟩ : Str) = ⟨List.foldl (fun x1 x2 => x1 ++ x2) #[] (List.replicate k.toNat z.toArray)⟩ := congrArg Str.mk e.symm
        rw [e2] at q
        refine ⟨?_, ⟨.str _, H, I.tok _, ⟨_, rfl⟩, q⟩⟩
        show (⟨List.foldl (fun x1 x2 => x1 ++ x2) #[] (List.replicate k.toNat z.toArray)⟩ : Str).length ≤ sizeLine
        rw [← e2, str_len, rep_len, line_eq]
        exact hl
theorem opR_pow {τ : Tbs} : OpR X (binaryOp .Pow) (rD τ opPow) := by
  intro pins s σ H x y v u Q I rx ry h
  obtain ⟨pa, B, b, a, c, E, rm, ra, rc, h⟩ := h
  cases ra with
  | int i => cases rc with
    | int j =>
      simp only [opPow] at h
      split at h
      · rename_i hl
        exact op_pow pins s σ H _ _ v u Q I rx ry ⟨i, j, rfl, rfl, hl, Po.here h rm (.int _)⟩
      · exact h.elim
    | _ => exact h.elim
  | _ => cases rc <;> exact h.elim
theorem opR_mul {τ : Tbs} : OpR X (binaryOp .Mult) (rD τ opMul) := by
  intro pins s σ H x y v u Q I rx ry h
  obtain ⟨pa, B, b, a, c, E, rm, ra, rc, h⟩ := h
  cases ra with
  | int i => cases rc with
    | int j =>
      simp only [opMul] at h
      split at h
      · rename_i hl
        exact op_mul pins s σ H _ _ v u Q I rx ry ⟨i, j, rfl, rfl, hl, Po.here h rm (.int _)⟩
      · exact h.elim
    | _ => exact h.elim
  | str z hz hz2 => cases rc with
    | int j =>
      simp only [opMul] at h
      split at h
      · rename_i hl
        exact op_mul_str pins s σ H _ _ v u Q I rx ry ⟨z, j, rfl, rfl, hl.1, hl.2.1, hl.2.2, Po.here h rm (.str _ (by rw [rep_len]; exact hl.2.2) (rep_all _ hz2))⟩
      · exact h.elim
    | _ => exact h.elim
  | lst n e l r => cases rc with
    | int j =>
      simp only [opMul] at h
      split at h
      · rename_i hl
        have hl2 := hl.2.2
        rw [← r.length] at hl2
        exact op_rep pins s σ H _ _ v u Q I rx ry ⟨_, j, _, rfl, rfl, e, by omega, by omega, by rw [line_eq]; exact hl2, Po.lst h rm (r.rep _) (by rw [rep_len]; exact hl2)⟩
      · exact h.elim
    | _ => exact h.elim
  | _ => cases rc <;> exact h.elim
theorem opR_mod {τ : Tbs} : OpR X (binaryOp .Mod) (rD τ opMod) := by
  intro pins s σ H x y v u Q I rx ry h
  obtain ⟨pa, B, b, a, c, E, rm, ra, rc, h⟩ := h
  cases ra with
  | int i => cases rc with
    | int j =>
      simp only [opMod] at h
      split at h
      · rename_i hl
        exact op_mod pins s σ H _ _ v u Q I rx ry ⟨i, j, rfl, rfl, hl, Po.here h rm (.int _)⟩
      · exact h.elim
    | _ => exact h.elim
  | _ => cases rc <;> exact h.elim
theorem opR_fdiv {τ : Tbs} : OpR X (binaryOp .FloorDiv) (rD τ opFdiv) := by
  intro pins s σ H x y v u Q I rx ry h
  obtain ⟨pa, B, b, a, c, E, rm, ra, rc, h⟩ := h
  cases ra with
  | int i => cases rc with
    | int j =>
      simp only [opFdiv] at h
      split at h
      · rename_i hl
        exact op_fdiv pins s σ H _ _ v u Q I rx ry ⟨i, j, rfl, rfl, hl, Po.here h rm (.int _)⟩
      · exact h.elim
    | _ => exact h.elim
  | _ => cases rc <;> exact h.elim
theorem unR_neg {τ : Tbs} : UnR X (unaryOp .USub) (rD1 τ opNeg) := by
  intro pins s σ H x v Q I rx h
  obtain ⟨pa, B, b, a, E, rm, ra, h⟩ := h
  cases ra with
  | int i => exact un_neg pins s σ H _ v Q I rx ⟨i, rfl, Po.here h rm (.int _)⟩
  | _ => exact h.elim
theorem opR_lt {τ : Tbs} : OpR X (compareOp .Lt) (rD τ opLt) := by
  intro pins s σ H x y v u Q I rx ry h
  obtain ⟨pa, B, b, a, c, E, rm, ra, rc, h⟩ := h
  cases ra with
  | int i => cases rc with
    | int j => exact op_lt pins s σ H _ _ v u Q I rx ry ⟨i, j, rfl, rfl, Po.here h rm (.bl _)⟩
    | _ => exact h.elim
  | str z hz hz2 => cases rc with
    | str z' hz' hz2' => exact op_lt_str pins s σ H _ _ v u Q I rx ry ⟨_, _, rfl, rfl, by simpa using Po.here h rm (.bl _)⟩
    | _ => exact h.elim
  | _ => cases rc <;> exact h.elim
theorem opR_le {τ : Tbs} : OpR X (compareOp .LtE) (rD τ opLe) := by
  intro pins s σ H x y v u Q I rx ry h
  obtain ⟨pa, B, b, a, c, E, rm, ra, rc, h⟩ := h
  cases ra with
  | int i => cases rc with
    | int j => exact op_le pins s σ H _ _ v u Q I rx ry ⟨i, j, rfl, rfl, Po.here h rm (.bl _)⟩
    | _ => exact h.elim
  | _ => cases rc <;> exact h.elim
theorem opR_gt {τ : Tbs} : OpR X (compareOp .Gt) (rD τ opGt) := by
  intro pins s σ H x y v u Q I rx ry h
  obtain ⟨pa, B, b, a, c, E, rm, ra, rc, h⟩ := h
  cases ra with
  | int i => cases rc with
    | int j => exact op_gt pins s σ H _ _ v u Q I rx ry ⟨i, j, rfl, rfl, Po.here h rm (.bl _)⟩
    | _ => exact h.elim
  | _ => cases rc <;> exact h.elim
theorem opR_ge {τ : Tbs} : OpR X (compareOp .GtE) (rD τ opGe) := by
  intro pins s σ H x y v u Q I rx ry h
  obtain ⟨pa, B, b, a, c, E, rm, ra, rc, h⟩ := h
  cases ra with
  | int i => cases rc with
    | int j => exact op_ge pins s σ H _ _ v u Q I rx ry ⟨i, j, rfl, rfl, Po.here h rm (.bl _)⟩
    | _ => exact h.elim
  | _ => cases rc <;> exact h.elim
theorem opR_eq {τ : Tbs} (hu : X.A.units + 64 < cLine) : OpR X (compareOp .Eq) (rD τ opEq) := by
  intro pins s σ H x y v u Q I rx ry h
  obtain ⟨pa, B, b, a, c, E, rm, ra, rc, h⟩ := h
  unfold opEq at h
  split at h
  · rename_i hd
    refine op_eqD hu pins s σ H _ _ v u Q I rx ry ⟨py a, py c, ra.dp hd.1, rc.dp hd.2.1, ra.shaped hd.1 hd.2.2.1, rc.shaped hd.2.1 hd.2.2.2, ?_⟩
    rw [eqv_eq a c hd.1 hd.2.1]
    exact Po.here h rm (.bl _)
  · exact h.elim
theorem opR_ne {τ : Tbs} (hu : X.A.units + 64 < cLine) : OpR X (compareOp .NotEq) (rD τ opNe) := by
  intro pins s σ H x y v u Q I rx ry h
  obtain ⟨pa, B, b, a, c, E, rm, ra, rc, h⟩ := h
  unfold opNe at h
  split at h
  · rename_i hd
    refine op_neD hu pins s σ H _ _ v u Q I rx ry ⟨py a, py c, ra.dp hd.1, rc.dp hd.2.1, ra.shaped hd.1 hd.2.2.1, rc.shaped hd.2.1 hd.2.2.2, ?_⟩
    rw [eqv_eq a c hd.1 hd.2.1]
    exact Po.here h rm (.bl _)
  · exact h.elim
end
end Mi
end
section
set_option linter.all false
set_option maxRecDepth 100000
set_option Elab.async false
set_option maxHeartbeats 1000000
/-! More operations of values: in, subscripts, slices, built-in functions. -/
namespace Mi
open PySem PySem.Spec PyProof.Rows L2
theorem RelV.refl' {v : V} {u : Value} (h : RelV v u) : RelV v u := h
section
variable {τ : Tbs} {pa : Pa τ} {B : Addr → Prop} {H : Hp}
theorem eqV_eqD {v w : V} {d e : D} (r : Rep pa B H v d) (r' : Rep pa B H w e) (h : flat d = true) (h' : flat e = true) : eqV v w = eqD d e := by
  cases r with
  | non => cases r' <;> first | rfl | cases h'
  | bl b => cases r' <;> first | rfl | cases h'
  | int b => cases r' <;> first | rfl | cases h'
  | str x _ _ => cases r' with
    | str y _ _ => exact str_beq
    | _ => first | rfl | cases h'
  | _ => cases h
theorem inV_any {w : V} {e : D} (r' : Rep pa B H w e) (h' : flat e = true) : ∀ {vs : List V} {ds : List D}, RepL pa B H vs ds → ds.all flat = true → inV w vs = ds.any fun y => eqD y e
  | _, _, .nil, _ => rfl
  | _, _, .cons r t, h => by
    rw [List.all_cons] at h
    have h2 := Bool.and_eq_true_iff.mp h
    have ih := inV_any r' h' t h2.2
    unfold inV at ih ⊢
    rw [List.any_cons, List.any_cons, ih, eqV_eqD r r' h2.1 h']
theorem key_dec {k j : S} : decide ((Sum.inr (⟨k.toArray⟩ : Str) : Key) = Sum.inr ⟨j.toArray⟩) = decide (k = j) := by
  by_cases h : k = j
  · subst h
    simp
  · rw [decide_eq_false h, decide_eq_false (fun z => h (str_inj.mp (Sum.inr.inj z)))]
theorem look_val (k : S) : ∀ {kvs : List (Key × V)} {ds : List (S × D)}, RepK pa B H kvs ds → (look ds k = none ∧ valV kvs (Sum.inr ⟨k.toArray⟩) = none) ∨ ∃ d v, look ds k = some d ∧ valV kvs (Sum.inr ⟨k.toArray⟩) = some v ∧ Rep pa B H v d
  | _, _, .nil => .inl ⟨rfl, rfl⟩
  | _, _, .cons (k := j) (v := v) (d := d) (ds := ds) (kvs := kvs) l r t => by
    by_cases h : j = k
    · refine .inr ⟨d, v, ?_, ?_, r⟩
      · unfold look
        rw [List.find?_cons_of_pos (by simpa using h)]
        rfl
      · rw [h]
        exact valV_pos rfl
    · rcases look_val k t with ⟨h1, h2⟩ | ⟨d', v', h1, h2, h3⟩
      · refine .inl ⟨?_, ?_⟩
        · unfold look at h1 ⊢
          rw [List.find?_cons_of_neg (by simpa using h)]
          exact h1
        · rw [valV_neg (fun z => h (str_inj.mp (Sum.inr.inj z)))]
          exact h2
      · refine .inr ⟨d', v', ?_, ?_, h3⟩
        · unfold look at h1 ⊢
          rw [List.find?_cons_of_neg (by simpa using h)]
          exact h1
        · rw [valV_neg (fun z => h (str_inj.mp (Sum.inr.inj z)))]
          exact h2
theorem isSome_val {k : S} {kvs : List (Key × V)} {ds : List (S × D)} (r : RepK pa B H kvs ds) : (look ds k).isSome = (valV kvs (Sum.inr ⟨k.toArray⟩)).isSome := by
  rcases look_val k r with ⟨h1, h2⟩ | ⟨d, v, h1, h2, _⟩
  · rw [h1, h2]
    rfl
  · rw [h1, h2]
    rfl
theorem atI_rep {vs : List V} {ds : List D} {i : Int} {d : D} (r : RepL pa B H vs ds) (h : atI ds i = some d) : ∃ v, atI vs i = some v ∧ Rep pa B H v d := by
  unfold atI at h ⊢
  rw [← r.length] at h
  cases e : ixN vs.length i with
  | none =>
    rw [e] at h
    cases h
  | some j =>
    rw [e] at h
    obtain ⟨v, h1, h2⟩ := r.get (show ds[j]? = some d from h)
    exact ⟨v, h1, h2⟩
theorem cut_len {α β : Type} {xs : List α} {ys : List β} (h : xs.length = ys.length) (lo hi : Option Int) : (cut xs lo hi) = (xs.drop (HT.sIx ys.length 0 lo)).take (HT.sIx ys.length ys.length hi - HT.sIx ys.length 0 lo) := by
  unfold cut
  rw [h]
theorem cut_rep {vs : List V} {ds : List D} (r : RepL pa B H vs ds) (lo hi : Option Int) : RepL pa B H (cutV vs lo hi) (cut ds lo hi) := by
  unfold cutV
  rw [cut_len r.length.symm]
  exact (r.drop _).take _
theorem cut_le {α : Type} (xs : List α) (lo hi : Option Int) : (cut xs lo hi).length ≤ xs.length := by
  unfold cut
  rw [List.length_take, List.length_drop]
  omega
theorem cut_all {x : S} {p : Nat → Bool} (h : x.all p = true) (lo hi : Option Int) : (cut x lo hi).all p = true := by
  unfold cut
  rw [List.all_eq_true] at h ⊢
  exact fun c hc => h c (List.mem_of_mem_drop (List.mem_of_mem_take hc))
theorem cutS_cut (x : S) (lo hi : Option Int) : cutS ⟨x.toArray⟩ lo hi = ⟨(cut x lo hi).toArray⟩ := by
  unfold cutS cut
  simp only [str_len]
end
section
variable {X : Cx}
/-- len of a dict, locked or not -/
theorem call_lenR : CallR X (.builtin "len") (fun xs H Q => ∃ a kvs, xs = [V.ref a] ∧ Rd H a (.dK kvs) ∧ Q (.int kvs.length) H) := by
  intro pins s σ H xs us Q I r h
  obtain ⟨a, kvs, rfl, ha, q⟩ := h
  obtain ⟨u, rfl, ru⟩ := vals1 r
  cases ru
  exact d_len I ha fun t s' I' => ⟨.int kvs.length, H, I', ⟨t, rfl⟩, q⟩
theorem opR_in {τ : Tbs} (hu : X.A.units + 1 < cLine) : OpR X (compareOp .In) (rD τ (opIn false)) := by
  intro pins s σ H x y v u Q I rx ry h
  obtain ⟨pa, B, b, a, c, E, rm, ra, rc, h⟩ := h
  have seq : ∀ {p : Addr} {vs : List V} {ds : List D}, y = .ref p → (SqL X.K H p vs ∨ SqT X.K H p vs) → RepL pa B H vs ds → (if flat a = true ∧ ds.all flat = true then Tr.ok (.bl (xor false (ds.any fun z => eqD z a))) else Tr.stuck).wp b (Po pa B H Q) E →
      wpAny (model X.prog X.w) X.A (compareOp .In v u) (EP X pins σ Q) X.xe s := by
    intro p vs ds hy hs r h
    split at h
    · rename_i hf
      refine op_in_seq pins s σ H _ _ v u Q I rx ry ⟨p, vs, hy, hs, ra.flat hf.1, r.flat hf.2, ?_⟩
      rw [inV_any ra hf.1 r hf.2]
      have := Po.here h rm (.bl _)
      simpa using this
    · exact h.elim
  cases rc with
  | dct n e l r =>
    cases ra with
    | str k hk hk2 =>
      cases ry
      refine d_in hu I (.inl ⟨_, Sum.inr ⟨k.toArray⟩, e, rfl, rfl⟩) rx fun s' I' => ⟨.bl _, H, I', rfl, ?_⟩
      have h' := Po.here h rm (.bl _)
      rw [isSome_val r] at h'
      simpa using h'
    | _ => exact h.elim
  | str z hz hz2 =>
    cases ra with
    | str k hk hk2 =>
      cases k with
      | nil => exact h.elim
      | cons c t => cases t with
        | nil => exact op_in_sign pins s σ H _ _ v u Q I rx ry ⟨c, _, rfl, rfl, by simpa using Po.here h rm (.bl _)⟩
        | cons _ _ => exact h.elim
    | _ => exact h.elim
  | tup e l r => cases ra <;> exact seq rfl (.inr (SqT.of e)) r h
  | lst n e l r => cases ra <;> exact seq rfl (.inl (SqL.of e)) r h
  | _ => cases ra <;> exact h.elim
theorem opR_notin {τ : Tbs} (hu : X.A.units + 1 < cLine) : OpR X (compareOp .NotIn) (rD τ (opIn true)) := by
  intro pins s σ H x y v u Q I rx ry h
  obtain ⟨pa, B, b, a, c, E, rm, ra, rc, h⟩ := h
  have seq : ∀ {p : Addr} {vs : List V} {ds : List D}, y = .ref p → (SqL X.K H p vs ∨ SqT X.K H p vs) → RepL pa B H vs ds → (if flat a = true ∧ ds.all flat = true then Tr.ok (.bl (xor true (ds.any fun z => eqD z a))) else Tr.stuck).wp b (Po pa B H Q) E →
      wpAny (model X.prog X.w) X.A (compareOp .NotIn v u) (EP X pins σ Q) X.xe s := by
    intro p vs ds hy hs r h
    split at h
    · rename_i hf
      refine op_notIn_seq pins s σ H _ _ v u Q I rx ry ⟨p, vs, hy, hs, ra.flat hf.1, r.flat hf.2, ?_⟩
      rw [inV_any ra hf.1 r hf.2]
      have := Po.here h rm (.bl _)
      simpa using this
    · exact h.elim
  cases rc with
  | dct n e l r =>
    cases ra with
    | str k hk hk2 =>
      cases ry
      refine d_notIn hu I (.inl ⟨_, Sum.inr ⟨k.toArray⟩, e, rfl, rfl⟩) rx fun s' I' => ⟨.bl _, H, I', rfl, ?_⟩
      have h' := Po.here h rm (.bl _)
      rw [isSome_val r] at h'
      simpa using h'
    | _ => exact h.elim
  | str z hz hz2 =>
    cases ra with
    | str k hk hk2 =>
      cases k with
      | nil => exact h.elim
      | cons c t => cases t with
        | nil => exact op_notIn_sign pins s σ H _ _ v u Q I rx ry ⟨c, _, rfl, rfl, by simpa using Po.here h rm (.bl _)⟩
        | cons _ _ => exact h.elim
    | _ => exact h.elim
  | tup e l r => cases ra <;> exact seq rfl (.inr (SqT.of e)) r h
  | lst n e l r => cases ra <;> exact seq rfl (.inl (SqL.of e)) r h
  | _ => cases ra <;> exact h.elim
theorem ixR {τ : Tbs} (hu : X.A.units + 1 < cLine) : IxR X (rD τ opIx) := by
  intro value slice pins s σ H x y v u Q I rx ry h hs
  obtain ⟨pa, B, b, a, c, E, rm, ra, rc, h⟩ := h
  cases ra with
  | lst n e l r => cases rc with
    | int i =>
      simp only [opIx] at h
      split at h
      · rename_i d hd
        obtain ⟨z, h1, h2⟩ := atI_rep r hd
        exact ix_list value slice pins s σ H _ _ v u Q I rx ry ⟨_, _, i, z, rfl, rfl, SqL.of e, h1, Po.here h rm h2⟩ hs
      · exact h.elim
    | _ => exact h.elim
  | tup e l r => cases rc with
    | int i =>
      simp only [opIx] at h
      split at h
      · rename_i d hd
        obtain ⟨z, h1, h2⟩ := atI_rep r hd
        exact ix_tup value slice pins s σ H _ _ v u Q I rx ry ⟨_, _, i, z, rfl, rfl, SqT.of e, h1, Po.here h rm h2⟩ hs
      · exact h.elim
    | _ => exact h.elim
  | str z hz hz2 => cases rc with
    | int i =>
      simp only [opIx] at h
      split at h
      · rename_i d hd
        refine ix_str value slice pins s σ H _ _ v u Q I rx ry ⟨_, i, d, rfl, rfl, by rw [str_len, line_eq]; exact hz, by simpa using hd, Po.here h rm (.str [d] (by show 1 ≤ line; decide) ?_)⟩ hs
        obtain ⟨j, _, h2, _⟩ := atI_get hd
        rw [List.all_eq_true] at hz2
        have := hz2 d (List.mem_of_getElem? h2)
        simpa using this
      · exact h.elim
    | _ => exact h.elim
  | @dct ad _ _ n e l r => cases rc with
    | str k hk hk2 =>
      simp only [opIx] at h
      rcases look_val k r with ⟨h1, h2⟩ | ⟨d, z, h1, h2, h3⟩
      · rw [h1] at h
        exact h.elim
      · rw [h1] at h
        cases rx
        have g : DGet H ad (.str ⟨k.toArray⟩) (some z) := by
          rw [← h2]
          exact .inl ⟨_, Sum.inr ⟨k.toArray⟩, e, rfl, rfl⟩
        exact tail_any (dict_typeIs I g) PySem.F.slot_dict_getitem.lookup (d_getItem hu I g ry fun w' s' I' rw' => ⟨z, H, I', rw', Po.here h rm h3⟩) hs
    | _ => exact h.elim
  | _ => cases rc <;> exact h.elim
/-- a slice by values -/
def rSl (τ : Tbs) (f : Option Int → Option Int → D → Tr D) : V → Option Int → Option Int → Hp → VK → Prop := fun x lo hi H Q => ∃ (pa : Pa τ) (B : Addr → Prop) (b : Nat) (a : D) (E : Nat → Nat → Prop), Rm pa B b H ∧ Rep pa B H x a ∧ (f lo hi a).wp b (Po pa B H Q) E
theorem slR {τ : Tbs} : SlR X (rSl τ opSl) := by
  intro pins s σ H x v vl vu lo hi sl Q I rx hs pl pu h
  obtain ⟨pa, B, b, a, E, rm, ra, h⟩ := h
  cases ra with
  | str z hz hz2 =>
    refine sl_str pins s σ H _ v vl vu lo hi sl Q I rx hs pl pu ⟨_, rfl, by rw [str_len, line_eq]; exact hz, ?_⟩
    rw [cutS_cut]
    exact Po.here h rm (.str _ (Nat.le_trans (cut_le _ _ _) hz) (cut_all hz2 _ _))
  | lst n e l r => exact sl_list pins s σ H _ v vl vu lo hi sl Q I rx hs pl pu ⟨_, _, rfl, SqL.of e, Po.lst h rm (cut_rep r lo hi) (Nat.le_trans (cutV_length _ _ _) l)⟩
  | tup e l r =>
    refine sl_tupA pins s σ H _ v vl vu lo hi sl Q I rx hs pl pu ⟨_, _, rfl, SqT.of e, fun hw => ?_, fun _ => Po.tup h rm (cut_rep r lo hi) (Nat.le_trans (cutV_length _ _ _) l)⟩
    refine Po.here h rm ?_
    rw [cut_len r.length.symm, hw.1, hw.2, List.drop_zero, Nat.sub_zero, r.length, List.take_length]
    exact .tup e l r
  | _ => exact h.elim
/-! ### built-in functions -/
theorem callR_len {τ : Tbs} : CallR X (.builtin "len") (rDs τ (Bi.run .len)) := by
  intro pins s σ H xs us Q I r h
  obtain ⟨pa, B, b, as, E, rm, ra, h⟩ := h
  cases ra with
  | nil => exact h.elim
  | cons r1 rr =>
    cases rr with
    | cons _ _ => exact h.elim
    | nil =>
      cases r1 with
      | str z hz hz2 =>
        refine call_len_str pins s σ H _ us Q I r ⟨_, rfl, by rw [str_len, line_eq]; exact hz, ?_⟩
        rw [str_len]
        exact Po.here h rm (.int _)
      | lst n e l r1 =>
        refine call_len_seq pins s σ H _ us Q I r ⟨_, _, rfl, .inl (SqL.of e), ?_⟩
        rw [r1.length]
        exact Po.here h rm (.int _)
      | tup e l r1 =>
        refine call_len_seq pins s σ H _ us Q I r ⟨_, _, rfl, .inr (SqT.of e), ?_⟩
        rw [r1.length]
        exact Po.here h rm (.int _)
      | dct n e l r1 =>
        refine call_lenR pins s σ H _ us Q I r ⟨_, _, rfl, e, ?_⟩
        rw [r1.length]
        exact Po.here h rm (.int _)
      | _ => exact h.elim
theorem allB_rep {τ : Tbs} {pa : Pa τ} {B : Addr → Prop} {H : Hp} : ∀ {vs : List V} {ds : List D} {b : Bool}, RepL pa B H vs ds → allB ds = some b → ∃ bs : List Bool, vs = bs.map V.bl ∧ bs.all id = b
  | _, _, b, .nil, h => by
    cases h
    exact ⟨[], rfl, rfl⟩
  | _, _, b, .cons r t, h => by
    cases r with
    | bl c =>
      simp only [allB] at h
      cases e : allB _ with
      | none =>
        rw [e] at h
        cases h
      | some k =>
        rw [e] at h
        obtain ⟨bs, h1, h2⟩ := allB_rep t e
        refine ⟨c :: bs, by rw [h1]; rfl, ?_⟩
        have h3 : (c && k) = b := Option.some.inj h
        rw [List.all_cons, h2]
        exact h3
    | _ => cases h
theorem callR_all {τ : Tbs} (hc : X.calm = true) : CallR X (.builtin "all") (rDs τ (Bi.run .all)) := by
  intro pins s σ H xs us Q I r h
  obtain ⟨pa, B, b, as, E, rm, ra, h⟩ := h
  cases ra with
  | nil => exact h.elim
  | cons r1 rr =>
    cases rr with
    | cons _ _ => exact h.elim
    | nil =>
      cases r1 with
      | lst n e l r1 =>
        simp only [Bi.run, opAll] at h
        split at h
        · rename_i k hk
          obtain ⟨bs, h1, h2⟩ := allB_rep r1 hk
          subst h1
          refine cr_all hc pins s σ H _ us Q I r ⟨_, bs, rfl, SqL.of e, ?_⟩
          rw [h2]
          exact Po.here h rm (.bl _)
        · exact h.elim
      | _ => exact h.elim
theorem callR_tuple {τ : Tbs} : CallR X (.type "tuple") (rDs τ (Bi.run .tuple)) := by
  intro pins s σ H xs us Q I r h
  obtain ⟨pa, B, b, as, E, rm, ra, h⟩ := h
  cases ra with
  | nil => exact h.elim
  | cons r1 rr =>
    cases rr with
    | cons _ _ => cases r1 <;> exact h.elim
    | nil =>
      cases r1 with
      | lst n e l r1 => exact call_tuple_of pins s σ H _ us Q I r ⟨_, _, rfl, .inl ⟨SqL.of e, Po.tup h rm r1 l⟩⟩
      | tup e l r1 => exact call_tuple_of pins s σ H _ us Q I r ⟨_, _, rfl, .inr ⟨SqT.of e, Po.here h rm (.tup e l r1)⟩⟩
      | _ => exact h.elim
theorem callR_int {τ : Tbs} : CallR X (.type "int") (rDs τ (Bi.run .int)) := by
  intro pins s σ H xs us Q I r h
  obtain ⟨pa, B, b, as, E, rm, ra, h⟩ := h
  cases ra with
  | nil => exact h.elim
  | cons r1 rr =>
    cases rr with
    | cons _ _ => cases r1 <;> exact h.elim
    | nil =>
      cases r1 with
      | int i => exact call_int1 pins s σ H _ us Q I r (.inl ⟨i, rfl, Po.here h rm (.int _)⟩)
      | _ => exact h.elim
theorem callR_abs {τ : Tbs} : CallR X (.builtin "abs") (rDs τ (Bi.run .abs)) := by
  intro pins s σ H xs us Q I r h
  obtain ⟨pa, B, b, as, E, rm, ra, h⟩ := h
  cases ra with
  | nil => exact h.elim
  | cons r1 rr =>
    cases rr with
    | cons _ _ => cases r1 <;> exact h.elim
    | nil =>
      cases r1 with
      | int i => exact call_abs pins s σ H _ us Q I r ⟨i, rfl, Po.here h rm (.int _)⟩
      | _ => exact h.elim
theorem int_pair {τ : Tbs} {pa : Pa τ} {B : Addr → Prop} {H : Hp} {vs : List V} {i j : Int} (r : RepL pa B H vs [.int i, .int j]) : vs = [.int i, .int j] := by
  cases r with
  | cons r1 r => cases r with
    | cons r2 r => cases r with
      | nil =>
        cases r1
        cases r2
        rfl
theorem run_mx {as : List D} {b : Nat} {P : Nat → D → Prop} {E : Nat → Nat → Prop} (h : (Bi.run .mx as).wp b P E) : ∃ i j, as = [.lst [.int i, .int j]] ∧ P b (.int (if i ≤ j then j else i)) := by
  unfold Bi.run at h
  split at h <;> first | exact h.elim | skip
  all_goals first | (rename_i z; cases z; done) | (rename_i z _; cases z; done) | skip
  exact ⟨_, _, rfl, h⟩
theorem run_mn {as : List D} {b : Nat} {P : Nat → D → Prop} {E : Nat → Nat → Prop} (h : (Bi.run .mn as).wp b P E) : ∃ i j, as = [.lst [.int i, .int j]] ∧ P b (.int (if i ≤ j then i else j)) := by
  unfold Bi.run at h
  split at h <;> first | exact h.elim | skip
  all_goals first | (rename_i z; cases z; done) | (rename_i z _; cases z; done) | skip
  exact ⟨_, _, rfl, h⟩
theorem callR_mx {τ : Tbs} (hc : X.calm = true) : CallR X (.builtin "max") (rDs τ (Bi.run .mx)) := by
  intro pins s σ H xs us Q I r h
  obtain ⟨pa, B, b, as, E, rm, ra, h⟩ := h
  obtain ⟨i, j, rfl, h⟩ := run_mx h
  cases ra with
  | cons r1 rr =>
    cases rr
    cases r1 with
    | lst n e l r1 =>
      have e2 := int_pair r1
      subst e2
      refine cr_max hc pins s σ H _ us Q I r ⟨_, [i, j], rfl, SqL.of e, Nat.succ_pos _, fun m hm hy => ?_⟩
      have e3 : m = if i ≤ j then j else i := by
        have h1 := hy i (by simp)
        have h2 := hy j (by simp)
        simp at hm
        split <;> omega
      rw [e3]
      exact Po.here h rm (.int _)
theorem callR_mn {τ : Tbs} (hc : X.calm = true) : CallR X (.builtin "min") (rDs τ (Bi.run .mn)) := by
  intro pins s σ H xs us Q I r h
  obtain ⟨pa, B, b, as, E, rm, ra, h⟩ := h
  obtain ⟨i, j, rfl, h⟩ := run_mn h
  cases ra with
  | cons r1 rr =>
    cases rr
    cases r1 with
    | lst n e l r1 =>
      have e2 := int_pair r1
      subst e2
      refine cr_min hc pins s σ H _ us Q I r ⟨_, [i, j], rfl, SqL.of e, Nat.succ_pos _, fun m hm hy => ?_⟩
      have e3 : m = if i ≤ j then i else j := by
        have h1 := hy i (by simp)
        have h2 := hy j (by simp)
        simp at hm
        split <;> omega
      rw [e3]
      exact Po.here h rm (.int _)
theorem str_eta (x : Str) : (⟨x.cps.toList.toArray⟩ : Str) = x := by
  obtain ⟨a⟩ := x
  simp
theorem callR_repr {τ : Tbs} (hg : X.A.guards = some []) (hu : X.A.units + 64 < cLine) : CallR X (.builtin "repr") (rDs τ (Bi.run .repr)) := by
  intro pins s σ H xs us Q I r h
  obtain ⟨pa, B, b, as, E, rm, ra, h⟩ := h
  cases ra with
  | nil => exact h.elim
  | cons r1 rr =>
    cases rr with
    | cons _ _ => cases r1 <;> exact h.elim
    | nil =>
      rename_i v d
      have h' : (opRepr d).wp b (Po pa B H Q) E := by cases r1 <;> exact h
      unfold opRepr at h'
      split at h'
      · rename_i hc
        obtain ⟨c1, c2, c3, c4, c5, c6⟩ := hc
        cases r with
        | cons ru rest =>
        cases rest
        rename_i u
        obtain ⟨as', rd⟩ := Dp.reads I (py d) v u (r1.dp c1) ru
        have e0 := str_eta (py d).shown
        have fin : ∀ g u' tk, (∀ b o, s.heap.get? b = some o → g.get? b = some o) → EP X pins σ Q (.str (py d).shown u') { s with heap := g, toks := tk } := fun g u' tk k =>
          ⟨.str ⟨(py d).shown.cps.toList.toArray⟩, H, I.kept k, ⟨u', by rw [e0]⟩, Po.here h' rm (.str _ c5 c6)⟩
        have sz : (py d).shown.length ≤ sizeLine := by rw [line_eq]; exact c5
        generalize py d = pd at *
        cases rd with
        | none => exact P.repr_of_none (fin s.heap _ _ fun _ _ e => e)
        | bool b0 => exact P.repr_of_bool (fin s.heap _ _ fun _ _ e => e)
        | int i t => exact P.repr_of_int (by simpa [PyData.showable] using c3) (fin s.heap _ _ fun _ _ e => e)
        | str x t => exact P.repr_of_str (fin s.heap _ _ fun _ _ e => e) sz
        | list a1 a2 a3 a4 => exact repr_of_reads' (.list a1 a2 a3 a4) c3 (fun z => by rw [c4] at z; cases z) hg (by omega) (fun _ _ e => e) (fun g u' tk k => fin g u' tk k) sz
        | tuple a1 a2 a3 a4 => exact repr_of_reads' (.tuple a1 a2 a3 a4) c3 (fun z => by rw [c4] at z; cases z) hg (by omega) (fun _ _ e => e) (fun g u' tk k => fin g u' tk k) sz
        | dict a1 a2 a3 a4 a5 => cases c4
      · exact h'.elim
end
end Mi
end
section
set_option linter.all false
set_option maxRecDepth 100000
set_option Elab.async false
set_option maxHeartbeats 1000000
/-! Defs that are called where no repr runs; what is read of a text. -/
namespace Mi
open PySem PySem.Spec PyProof.Rows L2

/-- as FnOk, where no guard stands (repr's) -/
structure FnG (r : Bool) (P : Program) (w : World) (K : PySem.W.Frag) (mg : Str → Option Value) (base : Heap) (k : Nat) (f : Addr) (fd : FuncData) (ps : List Str) (sp : Sp) : Prop where
  len : ∀ vs H Q E, sp vs H Q E → vs.length = ps.length
  run : ∀ (A : Around) (outer : List Env) (s : Shared) (H : Hp) (args : Args) (us : List Value) (vs : List V) (Q : VK) (E : XK), Room k A → (r = true → A.guards = some []) → Env0 P w K mg base A outer s H → BindsTo s fd args (ps.zip us) → Vals vs us → sp vs H Q E →
    codeAny (model P w) A (.call (.ref f) args) (CR (L2.CX P w) outer P w H s Q E) s
section
variable {P : Program} {w : World} {K : PySem.W.Frag} {mg : Str → Option Value} {base : Heap} {k j : Nat} {f : Addr} {fd : FuncData} {ps : List Str} {sp sp' : Sp} {r : Bool}
theorem FnG.of (F : FnOk P w K mg base (L2.CX P w) k f fd ps sp) : FnG r P w K mg base k f fd ps sp :=
  ⟨F.len, fun A outer s H args us vs Q E hr _ => F.run A outer s H args us vs Q E hr⟩
theorem FnG.mono (F : FnG r P w K mg base j f fd ps sp) (h : j ≤ k) : FnG r P w K mg base k f fd ps sp :=
  ⟨F.len, fun A outer s H args us vs Q E hr => F.run A outer s H args us vs Q E (hr.mono h)⟩
theorem FnG.imp (F : FnG r P w K mg base k f fd ps sp) (h : ∀ vs H Q E, sp' vs H Q E → sp vs H Q E) : FnG r P w K mg base k f fd ps sp' :=
  ⟨fun vs H Q E q => F.len vs H Q E (h _ _ _ _ q), fun A outer s H args us vs Q E hr hg he hb hv hs => F.run A outer s H args us vs Q E hr hg he hb hv (h _ _ _ _ hs)⟩
end
section
variable {X : Cx} {k : Nat} {f : Addr} {fd : FuncData} {ps : List Str} {sp : Sp} {dvs : List V} {ds : List Value} {E : XK} {x : Str} {p pos : Pos} {e : Expr} {es : List Expr} {t : TA} {r : Bool}
theorem run_fnG {pins : List (Addr × Obj)} {σ : L2.St} {H : Hp} {s : Shared} {Q : VK} {us : List Value} {vs : List V} (F : FnG r X.prog X.w X.K X.mg X.base k f fd ps sp) (hr : Room k X.A) (hgu : r = true → X.A.guards = some []) (hb : Binds X.K fd ps []) (hx : Passes (L2.CX X.prog X.w) X E)
    (I : L2.Inv X pins σ H s) (rv : Vals vs us) (h : sp vs H Q E) : wpAny (model X.prog X.w) X.A (PySem.call (.ref f) us) (EP X pins σ Q) X.xe s := by
  have hl : (us ++ []).length = ps.length := by rw [List.append_nil, ← rv.length]; exact F.len _ _ _ _ h
  have hb' := hb s us I.kIn hl
  rw [List.append_nil] at hb'
  refine wpAny_call (codeAny_mono (F.run X.A X.stack s H ⟨us, []⟩ us vs Q E hr hgu I.env0 hb' rv h) fun r s' hq => ?_)
  cases r with
  | error e => exact hx pins σ H s e s' I hq
  | ok fl =>
    cases fl with
    | ret u => exact I.after hq
    | next => exact False.elim hq
    | brk => exact False.elim hq
    | cont => exact False.elim hq
theorem pe_callG (F : FnG r X.prog X.w X.K X.mg X.base k f fd ps sp) (hr : Room k X.A) (hgu : r = true → X.A.guards = some []) (hg : Gl X x) (hm : X.mg x = some (.ref f)) (hk : PySem.W.keepIn X.K (.ref f) = true) (hb : Binds X.K fd ps []) (hx : Passes (L2.CX X.prog X.w) X E)
    (ha : PA X (e :: es) t) (hdb : (x == ("__debug__" : Str)) = false) (he : starEach (e :: es) X.env = (false, eval e X.env) :: starEach es X.env) (hpl : (backTo pos (starEach es X.env)).any (·.1) = false) :
    PE X (.Call (.Name x p) (e :: es) [] pos) (fun σ H Q => t σ H fun vs H1 => sp vs H1 Q E) := by
  refine ⟨fun pins s σ H Q I h => ?_⟩
  refine wpAny_Call_Name_kw (ld_glob I hg hm ?_ hdb)
  refine PySem.W.callWith_K (h₀ := X.base) I.ok.mod.kin hk (thn (ha.run pos pins s σ H _ I h) fun us s1 ⟨vs, H1, I1, r, q⟩ => ⟨I1.kIn, ?_⟩) he hpl
  exact run_fnG F hr hgu hb hx I1 r q
theorem pe_callG0 (F : FnG r X.prog X.w X.K X.mg X.base k f fd ps sp) (hr : Room k X.A) (hgu : r = true → X.A.guards = some []) (hg : Gl X x) (hm : X.mg x = some (.ref f)) (hk : PySem.W.keepIn X.K (.ref f) = true) (hb : Binds X.K fd ps []) (hx : Passes (L2.CX X.prog X.w) X E)
    (hdb : (x == ("__debug__" : Str)) = false) : PE X (.Call (.Name x p) [] [] pos) (fun σ H Q => sp [] H Q E) := by
  refine ⟨fun pins s σ H Q I h => ?_⟩
  refine wpAny_Call_Name_kw (ld_glob I hg hm ?_ hdb)
  exact PySem.W.callWith_K0 I.kIn hk (run_fnG (us := []) F hr hgu hb hx I .nil h)
theorem PE.imp {t t' : TE} (h : PE X e t) (i : ∀ σ H Q, t' σ H Q → t σ H Q) : PE X e t' := ⟨fun pins s σ H Q I q => h.run pins s σ H Q I (i σ H Q q)⟩
theorem PT.imp {t t' : TT} (h : PT X e t) (i : ∀ σ H Q, t' σ H Q → t σ H Q) : PT X e t' := ⟨fun pins s σ H Q I q => h.run pins s σ H Q I (i σ H Q q)⟩
theorem PW.imp {t t' : TT} (h : PW X e t) (i : ∀ σ H Q, t' σ H Q → t σ H Q) : PW X e t' := ⟨fun wh pins s σ H Q I q => h.run wh pins s σ H Q I (i σ H Q q)⟩
theorem PA.imp {t t' : TA} (h : PA X es t) (i : ∀ σ H Q, t' σ H Q → t σ H Q) : PA X es t' := ⟨fun pos pins s σ H Q I q => h.run pos pins s σ H Q I (i σ H Q q)⟩
theorem PS.imp {st : Stmt} {t t' : TS} (h : PS X st t) (i : ∀ D σ H, t' D σ H → t D σ H) : PS X st t' := ⟨fun pins s σ H D I q => h.run pins s σ H D I (i D σ H q)⟩
theorem PSs.imp {st : List Stmt} {t t' : TS} (h : PSs X st t) (i : ∀ D σ H, t' D σ H → t D σ H) : PSs X st t' := ⟨fun pins s σ H D I q => h.run pins s σ H D I (i D σ H q)⟩
end
/-! ### views of a text -/
def vName : Expr → Option Str
  | .Name x _ => some x
  | _ => none
theorem vName_ok {e : Expr} {x : Str} (h : vName e = some x) : ∃ p, e = .Name x p := by
  cases e <;> first | (cases h; exact ⟨_, rfl⟩) | cases h
def vConst : Expr → Option Const
  | .Constant k _ _ => some k
  | _ => none
theorem vConst_ok {e : Expr} {k : Const} (h : vConst e = some k) : ∃ j p, e = .Constant k j p := by
  cases e <;> first | (cases h; exact ⟨_, _, rfl⟩) | cases h
def vBin : Expr → Option (Expr × Operator × Expr)
  | .BinOp a o b _ => some (a, o, b)
  | _ => none
theorem vBin_ok {e a b : Expr} {o : Operator} (h : vBin e = some (a, o, b)) : ∃ p, e = .BinOp a o b p := by
  cases e <;> first | (cases h; exact ⟨_, rfl⟩) | cases h
def vUn : Expr → Option (UnaryOp × Expr)
  | .UnaryOp o a _ => some (o, a)
  | _ => none
theorem vUn_ok {e a : Expr} {o : UnaryOp} (h : vUn e = some (o, a)) : ∃ p, e = .UnaryOp o a p := by
  cases e <;> first | (cases h; exact ⟨_, rfl⟩) | cases h
def vBool : Expr → Option (BoolOp × List Expr × Pos)
  | .BoolOp o es p => some (o, es, p)
  | _ => none
theorem vBool_ok {e : Expr} {o : BoolOp} {es : List Expr} {p : Pos} (h : vBool e = some (o, es, p)) : e = .BoolOp o es p := by
  cases e <;> first | (cases h; rfl) | cases h
def vCmp : Expr → Option (Expr × List CmpOp × List Expr)
  | .Compare a os bs _ => some (a, os, bs)
  | _ => none
theorem vCmp_ok {e a : Expr} {os : List CmpOp} {bs : List Expr} (h : vCmp e = some (a, os, bs)) : ∃ p, e = .Compare a os bs p := by
  cases e <;> first | (cases h; exact ⟨_, rfl⟩) | cases h
def vIf : Expr → Option (Expr × Expr × Expr)
  | .IfExp t a b _ => some (t, a, b)
  | _ => none
theorem vIf_ok {e t a b : Expr} (h : vIf e = some (t, a, b)) : ∃ p, e = .IfExp t a b p := by
  cases e <;> first | (cases h; exact ⟨_, rfl⟩) | cases h
def vTup : Expr → Option (List Expr)
  | .Tuple es _ _ => some es
  | _ => none
theorem vTup_ok {e : Expr} {es : List Expr} (h : vTup e = some es) : ∃ k p, e = .Tuple es k p := by
  cases e <;> first | (cases h; exact ⟨_, _, rfl⟩) | cases h
def vLst : Expr → Option (List Expr)
  | .List es _ => some es
  | _ => none
theorem vLst_ok {e : Expr} {es : List Expr} (h : vLst e = some es) : ∃ p, e = .List es p := by
  cases e <;> first | (cases h; exact ⟨_, rfl⟩) | cases h
def vDict : Expr → Option (List (Option Expr) × List Expr)
  | .Dict ks vs _ => some (ks, vs)
  | _ => none
theorem vDict_ok {e : Expr} {ks : List (Option Expr)} {vs : List Expr} (h : vDict e = some (ks, vs)) : ∃ p, e = .Dict ks vs p := by
  cases e <;> first | (cases h; exact ⟨_, rfl⟩) | cases h
/-- f(..), f a name -/
def vCall : Expr → Option (Str × List Expr)
  | .Call (.Name x _) es [] _ => some (x, es)
  | _ => none
theorem vCall_ok {e : Expr} {x : Str} {es : List Expr} (h : vCall e = some (x, es)) : ∃ p q, e = .Call (.Name x p) es [] q := by
  unfold vCall at h
  split at h
  · cases h
    exact ⟨_, _, rfl⟩
  · cases h
/-- sorted(xs, key=place_key) -/
def vCallK : Expr → Option (Str × List Expr × Str × Expr)
  | .Call (.Name x _) es [⟨some k, e, _⟩] _ => some (x, es, k, e)
  | _ => none
theorem vCallK_ok {e v : Expr} {x k : Str} {es : List Expr} (h : vCallK e = some (x, es, k, v)) : ∃ p q r, e = .Call (.Name x p) es [⟨some k, v, r⟩] q := by
  unfold vCallK at h
  split at h
  · cases h
    exact ⟨_, _, _, rfl⟩
  · cases h
/-- o.m(..) on one line -/
def vMeth : Expr → Option (Expr × Str × List Expr)
  | .Call (.Attribute o m ap) es [] cp => if ap.endLine == cp.line then some (o, m, es) else none
  | _ => none
theorem vMeth_ok {e o : Expr} {m : Str} {es : List Expr} (h : vMeth e = some (o, m, es)) : ∃ ap cp, e = .Call (.Attribute o m ap) es [] cp ∧ (ap.endLine == cp.line) = true := by
  unfold vMeth at h
  split at h
  · split at h
    · rename_i hl
      cases h
      exact ⟨_, _, rfl, hl⟩
    · cases h
  · cases h
def vSub : Expr → Option (Expr × Expr)
  | .Subscript a i _ => some (a, i)
  | _ => none
theorem vSub_ok {e a i : Expr} (h : vSub e = some (a, i)) : ∃ p, e = .Subscript a i p := by
  cases e <;> first | (cases h; exact ⟨_, rfl⟩) | cases h
def vSl : Expr → Option (Option Expr × Option Expr × Option Expr)
  | .Slice a b c _ => some (a, b, c)
  | _ => none
theorem vSl_ok {e : Expr} {a b c : Option Expr} (h : vSl e = some (a, b, c)) : ∃ p, e = .Slice a b c p := by
  cases e <;> first | (cases h; exact ⟨_, rfl⟩) | cases h
/-- a comprehension of one clause -/
def vLc : Expr → Option (Expr × Expr × Expr × List Expr × Scope)
  | .ListComp e [⟨tg, it, ifs, 0⟩] sc _ => some (e, tg, it, ifs, sc)
  | _ => none
theorem vLc_ok {e elt tg it : Expr} {ifs : List Expr} {sc : Scope} (h : vLc e = some (elt, tg, it, ifs, sc)) : ∃ p, e = .ListComp elt [⟨tg, it, ifs, 0⟩] sc p := by
  unfold vLc at h
  split at h
  · cases h
    exact ⟨_, rfl⟩
  · cases h
def vDc : Expr → Option (Expr × Expr × Expr × Expr × List Expr × Scope)
  | .DictComp k v [⟨tg, it, ifs, 0⟩] sc _ => some (k, v, tg, it, ifs, sc)
  | _ => none
theorem vDc_ok {e k v tg it : Expr} {ifs : List Expr} {sc : Scope} (h : vDc e = some (k, v, tg, it, ifs, sc)) : ∃ p, e = .DictComp k v [⟨tg, it, ifs, 0⟩] sc p := by
  unfold vDc at h
  split at h
  · cases h
    exact ⟨_, rfl⟩
  · cases h
/-! ### plain facts of the text -/
def notStar : Expr → Bool
  | .Starred _ _ => false
  | _ => true
theorem starEach_of {e : Expr} {es : List Expr} {env : PySem.Env} (h : notStar e = true) : starEach (e :: es) env = (false, eval e env) :: starEach es env := by
  cases e <;> first | rfl | cases h
theorem star_any {pos : Pos} {env : PySem.Env} : ∀ {es : List Expr}, es.all notStar = true → (backTo pos (starEach es env)).any (·.1) = false
  | [], _ => rfl
  | e :: es, h => by
    rw [List.all_cons] at h
    have h' := Bool.and_eq_true_iff.mp h
    rw [starEach_of h'.1]
    have ih := star_any (pos := pos) (env := env) h'.2
    unfold backTo at ih ⊢
    rw [List.map_cons, List.any_cons, ih]
    rfl
def notBare : Expr → Bool
  | .Call _ _ _ _ => false
  | _ => true
theorem attrBase_of {o : Expr} {a : Str} {env : PySem.Env} {wh : Sem Value} (h : notBare o = true) : attributeBase o a env wh = wh := by
  cases o <;> first | rfl | cases h
def notSet : Expr → Bool
  | .Set _ _ _ => false
  | _ => true
theorem folded_of {e : Expr} {env : PySem.Env} (h : notSet e = true) (x : Value) : foldedSetIterable e env x = Pure.pure x := by
  cases e <;> first | rfl | cases h
theorem marks_of {op : CmpOp} {e : Expr} (h : notSet e = true) : behindInMarks op e = false := by
  cases e <;> first | rfl | cases h
def notSlice : Expr → Bool
  | .Slice _ _ _ _ => false
  | _ => true
theorem plainIx_of {e : Expr} (h : notSlice e = true) : PlainIx e := fun o i => by
  cases e <;> first | rfl | cases h
def notComp : Expr → Bool
  | .ListComp _ _ _ _ => false
  | .SetComp _ _ _ _ => false
  | .DictComp _ _ _ _ _ => false
  | _ => true
theorem swaps_of {e : Expr} {t : Option Expr} {l : Nat} {env : PySem.Env} (h : notComp e = true) : swapsWith e t l env = Pure.pure false := by
  cases e <;> first | rfl | cases h
/-- a test that is asked by truth -/
def plainTest : Expr → Bool
  | .UnaryOp .Not _ _ => false
  | .BoolOp _ _ _ => false
  | .IfExp _ _ _ _ => false
  | .Compare _ _ _ _ => false
  | _ => true
theorem isTrue_of {e : Expr} {env : PySem.Env} (h : plainTest e = true) : ∀ wh, isTrue e env wh = (do let v ← wh; standAt e.pos; holding [v] (truthy v)) := fun wh => by
  cases e with
  | UnaryOp o a p => cases o <;> first | rfl | cases h
  | _ => first | rfl | cases h
end Mi
end
section
set_option linter.all false
set_option maxRecDepth 100000
set_option Elab.async false
set_option maxHeartbeats 1000000
/-! Expressions: what the evaluator says is what the text gives. -/
namespace Mi
open PySem PySem.Spec PyProof.Rows L2

namespace Tk
def exB (K : PySem.W.Frag) (D : Addr) : Bool :=
  decide (PySem.W.findIn K (.ref D) "__getattribute__" = some (some (.builtin "BaseException.__getattribute__"))) && (decide (PySem.W.findIn K (.ref D) "__getattr__" = some none) && (decide (PySem.W.subIn K (.ref D) (.type "BaseException") = some true) && (PySem.W.hasDictIn K D &&
    (decide (PySem.W.findIn K (.ref D) "__class__" = some (some (.builtin "object.__class__"))) && (decide (PySem.W.specialIn K (.builtin "object.__class__") "__get__" = some (some (.builtin "getset_descriptor.__get__"))) && (decide (PySem.W.takesIn K (.builtin "object.__class__") = some true) && decide (PySem.W.mroIn K D (.type "object") = some true)))))))
theorem exB_ok {K : PySem.W.Frag} {D : Addr} (h : exB K D = true) : ExcC K D := by
  simp only [exB, Bool.and_eq_true, decide_eq_true_eq] at h
  obtain ⟨h1, h2, h3, h4, h5, h6, h7, h8⟩ := h
  exact ⟨h1, h2, h3, h4, h5, h6, h7, h8⟩
end Tk
structure Cfg where
  key : Bool
  N : List Str
  defs : List (Str × Nat)
  tabs : List (Str × List (S × S))
  cons : List (Str × D)
  free : List Str
  excs : List Str
  /-- calls by keywords: which def, the keywords as they stand, where each parameter's value stands among them -/
  kws : List (Nat × List Str × List Nat) := []
  /-- whether repr may run here -/
  rp : Bool := true
  /-- the defs that run no repr -/
  pl : List Nat := []
  /-- the defs with a lambda -/
  tf : List Str := []
  /-- whether this def is one of them -/
  dn : Bool := false
  /-- the defs that call what they are handed -/
  lams : List (Str × Bool × List (Nat × S)) := []
  /-- what isinstance is asked of exceptions: the class, which are under it -/
  isx : List (XQ × List Nat) := []
  /-- what except may take: the class, which are under it -/
  exm : List (Nat × List Nat) := []
/-- whether the def f may run repr -/
def Cfg.rpf (c : Cfg) (f : Nat) : Bool := !(c.pl.contains f)
theorem Cfg.rp_of {c : Cfg} {f : Nat} (h : (c.rp || c.pl.contains f) = true) (h2 : c.rpf f = true) : c.rp = true := by
  unfold Cfg.rpf at h2
  cases e : c.pl.contains f with
  | true => rw [e] at h2; cases h2
  | false =>
    rw [e, Bool.or_false] at h
    exact h
def Cfg.tb (c : Cfg) : Tabs := c.tabs.map (·.2)
/-- the tables of the defs with a lambda -/
def Cfg.T (c : Cfg) (K : PySem.W.Frag) : Tbs := ⟨c.tf.map fun x => ((He.cT K (x, none)).2, (x ++ ".<locals>.") ++ "<lambda>"), fun i => (c.excs[i]?).map (He.ga K)⟩
/-- the class of an error, by its number -/
def xv (K : PySem.W.Frag) (c : Cfg) (i : Nat) : Value := .ref (He.ga K (c.excs.getD i Str.empty))
def XQ.ty : XQ → String
  | .val => "ValueError"
  | .look => "LookupError"
  | .arit => "ArithmeticError"
  | .typ => "TypeError"
  | .own _ => ""
def XQ.v (K : PySem.W.Frag) (c : Cfg) : XQ → Value
  | .own i => xv K c i
  | q => .type q.ty
def isxB (K : PySem.W.Frag) (c : Cfg) (e : XQ × List Nat) : Bool := (List.range c.excs.length).all fun i => Tk.exB K (He.ga K (c.excs.getD i Str.empty)) && decide (PySem.W.kitOne K (xv K c i) (e.1.v K c) = some (e.2.contains i))
def exmB (K : PySem.W.Frag) (c : Cfg) (e : Nat × List Nat) : Bool := (List.range c.excs.length).all fun i => decide (PySem.W.exmOne K (xv K c i) (xv K c e.1) = some (e.2.contains i))
/-- slots and data -/
structure Okk {τ : Tbs} (pa : Pa τ) (B : Addr → Prop) (b : Nat) (H : Hp) (σ : L2.St) (Γ : Ga) : Prop where
  rm : Rm pa B b H
  len : Γ.length ≤ σ.length
  slots : ∀ (i : Nat) (d : D), Γ[i]? = some (some d) → ∃ v, σ[i]? = some (some v) ∧ Rep pa B H v d
def Er (K : PySem.W.Frag) (c : Cfg) (W : WX) (pa : Pa (c.T K)) (σ : L2.St) (H : Hp) : Nat → Nat → Prop := fun b i => ∀ H', Ex pa H H' → Hk pa b H' → W (xv K c i) none σ H'
def tE (K : PySem.W.Frag) (c : Cfg) (W : WX) (f : Ga → Tr D) : TE := fun σ H Q => ∃ (Γ : Ga) (pa : Pa (c.T K)) (B : Addr → Prop) (b : Nat), Okk pa B b H σ Γ ∧ (f Γ).wp b (Po pa B H Q) (Er K c W pa σ H)
def tF (K : PySem.W.Frag) (c : Cfg) (W : WX) (f : Ga → Tr D) : TE := fun σ H Q => ∃ (Γ : Ga) (pa : Pa (c.T K)) (B : Addr → Prop) (b : Nat), Okk pa B b H σ Γ ∧ (f Γ).wp b (PoF pa B H Q) (Er K c W pa σ H)
def PoL {τ : Tbs} (pa : Pa τ) (B : Addr → Prop) (H : Hp) (Q : List V → Hp → Prop) : Nat → List D → Prop := fun b ds => ∀ vs H', Ex pa H H' → Hk pa b H' → RepL pa B H' vs ds → Q vs H'
def tEs (K : PySem.W.Frag) (c : Cfg) (W : WX) (f : Ga → Tr (List D)) : TA := fun σ H Q => ∃ (Γ : Ga) (pa : Pa (c.T K)) (B : Addr → Prop) (b : Nat), Okk pa B b H σ Γ ∧ (f Γ).wp b (PoL pa B H Q) (Er K c W pa σ H)
def PoB {τ : Tbs} (pa : Pa τ) (H : Hp) (Q : Bool → Hp → Prop) : Nat → Bool → Prop := fun b d => ∀ H', Ex pa H H' → Hk pa b H' → Q d H'
def tT (K : PySem.W.Frag) (c : Cfg) (W : WX) (f : Ga → Tr Bool) : TT := fun σ H Q => ∃ (Γ : Ga) (pa : Pa (c.T K)) (B : Addr → Prop) (b : Nat), Okk pa B b H σ Γ ∧ (f Γ).wp b (PoB pa H Q) (Er K c W pa σ H)
/-- the items of what is walked -/
structure Wk {τ : Tbs} (pa : Pa τ) (J : It) (G : (Addr → Prop) → Hp → Prop) (Y : Nat → Hp → V → Hp → Prop) (ds : List D) : Prop where
  walk : ∀ B, Walk J ds.length (G B) Y
  gives : ∀ (B : Addr → Prop) (i : Nat) (H : Hp) (x : V) (H' : Hp) (b : Nat), i < ds.length → G B H → Rm pa B b H → Y i H x H' → Ex pa H H' ∧ Hk pa b H' ∧ ∃ d, ds[i]? = some d ∧ Rep pa B H' x d
  stays : ∀ B B' H H', G B H → Keeps B B' H H' → G B' H'
def PoW {τ : Tbs} (pa : Pa τ) (B : Addr → Prop) (H : Hp) (R : It → Hp → Prop) : Nat → List D → Prop := fun b ds => ∀ J G Y H', Ex pa H H' → Hk pa b H' → Wk pa J G Y ds → G B H' → R J H'
def tS (K : PySem.W.Frag) (c : Cfg) (W : WX) (f : Ga → Tr (List D)) : TI := fun σ H R => ∃ (Γ : Ga) (pa : Pa (c.T K)) (B : Addr → Prop) (b : Nat), Okk pa B b H σ Γ ∧ (f Γ).wp b (PoW pa B H R) (Er K c W pa σ H)
section
variable {K : PySem.W.Frag} {c : Cfg} {W : WX} {pa : Pa (c.T K)} {B : Addr → Prop} {b b' : Nat} {H H' H'' : Hp} {σ : L2.St} {Γ : Ga}
theorem Okk.ex {τ : Tbs} {pa : Pa τ} (o : Okk pa B b H σ Γ) (x : Ex pa H H') (k : Hk pa b' H') : Okk pa B b' H' σ Γ :=
  ⟨o.rm.ex x k, o.len, fun i d e => let ⟨v, h1, h2⟩ := o.slots i d e; ⟨v, h1, h2.ex x o.rm⟩⟩
theorem Er.ex {i : Nat} (h : Er K c W pa σ H b i) (x : Ex pa H H') : Er K c W pa σ H' b i := fun H1 y k => h H1 (x.trans y) k
/-- one part, then the rest -/
theorem te_one {fa : Ga → Tr D} {g : D → Tr D} {Q : VK} (h : tE K c W (fun Γ => (fa Γ).bind g) σ H Q) :
    tE K c W fa σ H fun x H1 => ∃ Γ pa B b a, Okk pa B b H1 σ Γ ∧ Rep pa B H1 x a ∧ (g a).wp b (Po pa B H1 Q) (Er K c W pa σ H1) := by
  obtain ⟨Γ, pa, B, b, o, h⟩ := h
  refine ⟨Γ, pa, B, b, o, Tr.wp_mono (fun b1 a h1 v H1 x k r => ?_) (fun _ _ z => z) _ _ ((Tr.wp_bind _ _).mp h)⟩
  exact ⟨Γ, pa, B, b1, a, o.ex x k, r, Tr.wp_mono (fun _ _ z => Po.ex x z) (fun _ _ z => Er.ex z x) _ _ h1⟩
theorem te_oneF {fa : Ga → Tr D} {g : D → Tr D} {Q : VK} (h : tF K c W (fun Γ => (fa Γ).bind g) σ H Q) :
    tE K c W fa σ H fun x H1 => ∃ Γ pa B b a, Okk pa B b H1 σ Γ ∧ Rep pa B H1 x a ∧ (g a).wp b (PoF pa B H1 Q) (Er K c W pa σ H1) := by
  obtain ⟨Γ, pa, B, b, o, h⟩ := h
  refine ⟨Γ, pa, B, b, o, Tr.wp_mono (fun b1 a h1 v H1 x k r => ?_) (fun _ _ z => z) _ _ ((Tr.wp_bind _ _).mp h)⟩
  exact ⟨Γ, pa, B, b1, a, o.ex x k, r, Tr.wp_mono (fun _ _ z => PoF.ex x z) (fun _ _ z => Er.ex z x) _ _ h1⟩
theorem tF_of {f : Ga → Tr D} {Q : VK} (h : tE K c W f σ H Q) : tF K c W f σ H Q := by
  obtain ⟨Γ, pa, B, b, o, h⟩ := h
  exact ⟨Γ, pa, B, b, o, Tr.wp_mono (fun _ _ z => PoF.of z) (fun _ _ z => z) _ _ h⟩
theorem te_two {fa fb : Ga → Tr D} {g : D → D → Tr D} {Q : VK} (h : tE K c W (fun Γ => (fa Γ).bind fun x => (fb Γ).bind fun y => g x y) σ H Q) :
    tE K c W fa σ H fun x H1 => tE K c W fb σ H1 fun y H2 => ∃ Γ pa B b a d, Okk pa B b H2 σ Γ ∧ Rep pa B H2 x a ∧ Rep pa B H2 y d ∧ (g a d).wp b (Po pa B H2 Q) (Er K c W pa σ H2) := by
  obtain ⟨Γ, pa, B, b, o, h⟩ := h
  refine ⟨Γ, pa, B, b, o, Tr.wp_mono (fun b1 a h1 v H1 x k r => ?_) (fun _ _ z => z) _ _ ((Tr.wp_bind _ _).mp h)⟩
  refine ⟨Γ, pa, B, b1, o.ex x k, Tr.wp_mono (fun b2 d h2 v2 H2 x2 k2 r2 => ?_) (fun _ _ z => Er.ex z x) _ _ ((Tr.wp_bind _ _).mp h1)⟩
  exact ⟨Γ, pa, B, b2, a, d, (o.ex x k).ex x2 k2, r.ex x2 (o.ex x k).rm, r2, Tr.wp_mono (fun _ _ z => Po.ex (x.trans x2) z) (fun _ _ z => Er.ex z (x.trans x2)) _ _ h2⟩
end
/-- a lambda may be made here -/
structure LamAt (X : Cx) (τ : Tbs) (k : Nat) : Prop where
  at_ : ∃ cc P, X.env.code = .ref cc ∧ LamX.TabB X.base X.mg cc P ∧ (P, X.env.qual ++ "<lambda>") ∈ τ.t ∧ ∀ p ∈ τ.t, p.1 = P → p.2 = X.env.qual ++ "<lambda>"
  room : Room (k + 2) X.A
/-- what comes of a lambda handed on -/
def lamVV (m : Bool) (v : V) : V := match m with
  | true => v
  | false => .str ⟨fineS.toArray⟩
def TTw (K : PySem.W.Frag) (c : Cfg) (m : Bool) (ws : List (Nat × S)) : (XK → Hp → VK → Prop) → Hp → VK → Prop := fun tl H Q =>
  tl (fun cls d H' => d = none ∧ ∃ i z, lookW ws i = some z ∧ cls = xv K c i ∧ ∀ H'' : Hp, (∀ b o, H' b = some o → H'' b = some o) → Q (.str ⟨z.toArray⟩) H'') H (fun v H' => Q (lamVV m v) H')
/-- a def that calls what it is handed -/
def LamFn (P : Program) (w : World) (K : PySem.W.Frag) (mg : Str → Option Value) (base : Heap) (c : Cfg) (x : Str) (m : Bool) (ws : List (Nat × S)) : Prop :=
  ∃ (g : Addr) (a : Str) (pg : Arguments) (bg : List Stmt) (sg : Scope) (dV kV doc pm cdv ct oc : Value) (an od : Option Addr) (osl : Array (Option Value)) (Ng : List Str), mg x = some (.ref g) ∧ PySem.W.keepIn K (.ref g) = true ∧
    K.lookup g = some ⟨oc, od, .func (PySem.W.fnOf x x pg bg sg dV kV doc pm an cdv ct), osl⟩ ∧ PySem.W.codeIn K cdv x = true ∧ Binds K (PySem.W.fnOf x x pg bg sg dV kV doc pm an cdv ct) [a] [] ∧ FnScope Ng [a] sg ∧ Ng[0]? = some a ∧ Vis sg a ∧
    ((a == ("__debug__" : Str)) = false ∧ (a == ("__classdict__" : Str)) = false) ∧ ∀ X : Cx, X.prog = P → X.w = w → X.K = K → X.mg = mg → X.base = base → ∀ q : Str, LamX.GivesTo X Ng x sg g cdv bg a q (TTw K c m ws)
/-- where one stands -/
structure Gd (X : Cx) (c : Cfg) (sc : Scope) (cl : Cl) (k : Nat) (W : WX) : Prop where
  n : X.N = c.N
  nd : c.N.Nodup
  sc : X.env.scope = sc
  calm : X.calm = true
  room : Room k X.A
  gu : c.rp = true → X.A.guards = some []
  tk : Takes X W
  lam : c.dn = true → LamAt X (c.T X.K) k
/-- what a def promises -/
def spC (K : PySem.W.Frag) (c : Cfg) (cl : Cl) (f n : Nat) : Sp := fun vs H Q E => vs.length = n ∧ ∃ (pa : Pa (c.T K)) (B : Addr → Prop) (b : Nat) (ds : List D), Rm pa B b H ∧ RepL pa B H vs ds ∧ (cl f ds).wp b (Po pa B H Q) (fun b' i => ∀ H', Ex pa H H' → Hk pa b' H' → E (xv K c i) none H')
/-- a call of f with a text gives its key, and keeps all -/
def KeyTurn (P : Program) (w : World) (K : PySem.W.Frag) (mg : Str → Option Value) (base : Heap) (f : Addr) : Prop :=
  ∀ (A : Around) (s : Shared) (z : Str) (t : Tok), A.depth < recursionLimit → Mod K mg base → (∀ b o, base.get? b = some o → s.heap.get? b = some o) → z.length ≤ sizeLine →
    wpAny (model P w) A (PySem.call (.ref f) [.str z t]) (PySem.W.KeyPure (.tuple [.int z.length, .str z]) s) (fun _ _ => False) s
/-- how the calls by keywords bind -/
def KwB (c : Cfg) (f : Nat) (fd : FuncData) (ps : List Str) : Prop := ∀ (ks : List Str) (pm : List Nat), (f, ks, pm) ∈ c.kws → pm.length = ps.length ∧ ∀ (s : Shared) (us : List Value), us.length = ks.length → BindsTo s fd ⟨[], ks.zip us⟩ (ps.zip (pm.map fun i => us.getD i Value.none))
/-- what the module holds -/
structure Fc (P : Program) (w : World) (K : PySem.W.Frag) (mg : Str → Option Value) (base : Heap) (c : Cfg) (cl : Cl) (k : Nat) : Prop where
  defs : ∀ (f : Nat) (x : Str) (n : Nat), c.defs[f]? = some (x, n) → ∃ fa fd ps, mg x = some (.ref fa) ∧ PySem.W.keepIn K (.ref fa) = true ∧ Binds K fd ps [] ∧ ps.length = n ∧ KwB c f fd ps ∧ FnG (c.rpf f) P w K mg base k fa fd ps (spC K c cl f n)
  cons : ∀ x d, (x, d) ∈ c.cons → ∃ u v, mg x = some u ∧ RelV v u ∧ ∀ (τ : Tbs) (pa : Pa τ) B H, Rep pa B H v d
  tabs : ∀ (t : Nat) (x : Str) (tb : List (S × S)), c.tabs[t]? = some (x, tb) → ∃ a es n, mg x = some (.ref a) ∧ K.lookup a = some ⟨.type "dict", none, .dict es n, #[]⟩ ∧ PySem.W.KeysLit w.params es.toList ∧ (a == sysModules) = false ∧
    (∀ k v, lookT tb k = some v → (∃ u, PySem.W.nsIn K a ⟨k.toArray⟩ = some (some u) ∧ RelV (.str ⟨v.toArray⟩) u) ∧ v.length ≤ line ∧ v.all (fun c => decide (c < 0x110000)) = true) ∧ (∀ k, lookT tb k = none → PySem.W.nsIn K a ⟨k.toArray⟩ = some none)
  free : ∀ x, x ∈ c.free → mg x = none
  excs : ∀ (i : Nat) (x : Str), c.excs[i]? = some x → ∃ (bmB : List Value) (B newId initId : String), ExcBaseFacts B newId initId bmB ∧ PySem.W.excIn K (He.ga K x) bmB newId = true ∧ mg x = some (.ref (He.ga K x)) ∧ PySem.W.keepIn K (.ref (He.ga K x)) = true ∧
    PySem.W.subIn K (.ref (He.ga K x)) (.type "BaseException") = some true ∧ PySem.W.typeIn K (.ref (He.ga K x)) = some (.type "type")
  key : c.key = true → ∃ f, mg "place_key" = some (.ref f) ∧ KeyTurn P w K mg base f
  lam : ∀ x m ws, (x, m, ws) ∈ c.lams → LamFn P w K mg base c x m ws
  isx : ∀ e, e ∈ c.isx → isxB K c e = true
  exm : ∀ e, e ∈ c.exm → exmB K c e = true
/-! ### the check -/
def visB (sc : Scope) (x : Str) : Bool := match sc.names.lookup x with
  | some .local => true
  | some .cell => true
  | some .free => true
  | _ => false
def glB (sc : Scope) (x : Str) : Bool := match sc.names.lookup x with
  | some .globalImplicit => true
  | _ => false
def locB (sc : Scope) (x : Str) : Bool := match sc.names.lookup x with
  | some .local => true
  | _ => false
theorem visB_ok {sc : Scope} {x : Str} (h : visB sc x = true) : Vis sc x := by
  unfold visB at h
  split at h
  · exact .inl (by assumption)
  · exact .inr (.inl (by assumption))
  · exact .inr (.inr (by assumption))
  · cases h
theorem glB_ok {sc : Scope} {x : Str} (h : glB sc x = true) : sc.names.lookup x = some .globalImplicit := by
  unfold glB at h
  split at h
  · assumption
  · cases h
theorem locB_ok {sc : Scope} {x : Str} (h : locB sc x = true) : sc.names.lookup x = some .local := by
  unfold locB at h
  split at h
  · assumption
  · cases h
def okN (x : Str) : Bool := !(x == ("__debug__" : Str)) && (!(x == ("__classdict__" : Str)) && !(x == ("__name__" : Str)))
theorem okN_ok {x : Str} (h : okN x = true) : (x == ("__debug__" : Str)) = false ∧ (x == ("__classdict__" : Str)) = false ∧ x ≠ "__name__" := by
  unfold okN at h
  simp only [Bool.and_eq_true, Bool.not_eq_true'] at h
  exact ⟨h.1, h.2.1, fun z => by
    have h2 := h.2.2
    rw [z, beq_self_eq_true] at h2
    cases h2⟩
def strB (x : S) : Bool := decide (x.length ≤ line) && x.all (fun c => decide (c < 0x110000))
def cstB : D → Const → Bool
  | .non, .none => true
  | .bl a, .bool b => a == b
  | .int i, .int j => decide (j = i)
  | .str x, .str y => decide (y = ⟨x.toArray⟩) && strB x
  | _, _ => false
def sameD : D → D → Bool
  | .int i, .int j => decide (i = j)
  | .str i, .str j => decide (i = j)
  | _, _ => false
theorem sameD_ok {a b : D} (h : sameD a b = true) : a = b := by
  unfold sameD at h
  split at h
  · exact congrArg D.int (of_decide_eq_true h)
  · exact congrArg D.str (of_decide_eq_true h)
  · cases h
def opB : BOp → Operator → Bool
  | .add, .Add => true
  | .sub, .Sub => true
  | .mul, .Mult => true
  | .mod, .Mod => true
  | .fdiv, .FloorDiv => true
  | .pow, .Pow => true
  | _, _ => false
def cmpB : COp → CmpOp → Bool
  | .lt, .Lt => true
  | .le, .LtE => true
  | .gt, .Gt => true
  | .ge, .GtE => true
  | .eq, .Eq => true
  | .ne, .NotEq => true
  | .isin, .In => true
  | .notin, .NotIn => true
  | _, _ => false
section
variable {X : Cx} {c : Cfg} {sc : Scope} {cl : Cl} {k : Nat} {W : WX} {pos : Pos}
theorem Gd.hu (g : Gd X c sc cl k W) : X.A.units + 64 < cLine := g.room.units
theorem Gd.hu1 (g : Gd X c sc cl k W) : X.A.units + 1 < cLine := by have := g.room.units; omega
theorem opB_ok {τ : Tbs} {o : BOp} {op : Operator} (h : opB o op = true) : OpR X (binaryOp op) (rD τ o.run) := by
  cases o with
  | add => cases op <;> first | exact absurd h (by decide) | exact opR_add
  | sub => cases op <;> first | exact absurd h (by decide) | exact opR_sub
  | mul => cases op <;> first | exact absurd h (by decide) | exact opR_mul
  | mod => cases op <;> first | exact absurd h (by decide) | exact opR_mod
  | fdiv => cases op <;> first | exact absurd h (by decide) | exact opR_fdiv
  | pow => cases op <;> first | exact absurd h (by decide) | exact opR_pow
theorem cmpB_ok {τ : Tbs} (g : Gd X c sc cl k W) {o : COp} {op : CmpOp} (h : cmpB o op = true) : OpR X (compareOp op) (rD τ o.run) := by
  cases o with
  | lt => cases op <;> first | exact absurd h (by decide) | exact opR_lt
  | le => cases op <;> first | exact absurd h (by decide) | exact opR_le
  | gt => cases op <;> first | exact absurd h (by decide) | exact opR_gt
  | ge => cases op <;> first | exact absurd h (by decide) | exact opR_ge
  | eq => cases op <;> first | exact absurd h (by decide) | exact opR_eq g.hu
  | ne => cases op <;> first | exact absurd h (by decide) | exact opR_ne g.hu
  | isin => cases op <;> first | exact absurd h (by decide) | exact opR_in g.hu1
  | notin => cases op <;> first | exact absurd h (by decide) | exact opR_notin g.hu1
theorem Gl_of (g : Gd X c sc cl k W) {x : Str} (h : glB sc x = true) : Gl X x := by
  show X.env.scope.names.lookup x = some .globalImplicit
  rw [g.sc]
  exact glB_ok h
/-! ### names, constants -/
theorem pe_var' (g : Gd X c sc cl k W) {i : Nat} {x : Str} {p : Pos} (h1 : c.N[i]? = some x) (h2 : visB sc x = true) (h3 : okN x = true) : PE X (.Name x p) (tE X.K c W (ev cl c.tb (.var i))) := by
  refine PE.imp (pe_var (i := i) (by rw [g.n]; exact h1) (by rw [g.sc]; exact visB_ok h2) (okN_ok h3).1 (okN_ok h3).2.1) fun σ H Q h => ?_
  obtain ⟨Γ, pa, B, b, o, h⟩ := h
  simp only [ev] at h
  split at h
  · rename_i d e
    obtain ⟨v, e1, r⟩ := o.slots i d e
    exact ⟨v, e1, Po.here h o.rm r⟩
  · exact h.elim
theorem pe_cst {d : D} {v : V} {ast : Expr} (h : PE X ast (tC v)) (r : ∀ (τ : Tbs) (pa : Pa τ) B H, Rep pa B H v d) : PE X ast (tE X.K c W (ev cl c.tb (.cst d))) := by
  refine PE.imp h fun σ H Q h => ?_
  obtain ⟨Γ, pa, B, b, o, h⟩ := h
  exact Po.here (show Po pa B H Q b d from h) o.rm (r _ _ _ _)
theorem pe_const {d : D} {kc : Const} {j : Nat} {p : Pos} (h : cstB d kc = true) : PE X (.Constant kc j p) (tE X.K c W (ev cl c.tb (.cst d))) := by
  cases d <;> cases kc <;> first | (exact pe_cst pe_non fun _ _ _ _ => .non) | skip
  all_goals first | cases h | skip
  · rw [eq_of_beq h]
    exact pe_cst pe_bl fun _ _ _ _ => .bl _
  · rw [of_decide_eq_true h]
    exact pe_cst pe_int fun _ _ _ _ => .int _
  · have h2 := Bool.and_eq_true_iff.mp (show (decide _ && strB _) = true from h)
    have h3 := Bool.and_eq_true_iff.mp (show (decide _ && _) = true from h2.2)
    rw [of_decide_eq_true h2.1]
    exact pe_cst pe_str fun _ _ _ _ => .str _ (of_decide_eq_true h3.1) h3.2
/-! ### operators -/
theorem pe_bin' {a e : Expr} {fa fb : Ga → Tr D} {g : D → D → Tr D} {op : Operator} (ho : OpR X (binaryOp op) (rD (c.T X.K) g)) (ha : PE X a (tE X.K c W fa)) (hb : PE X e (tE X.K c W fb)) :
    PE X (.BinOp a op e pos) (tE X.K c W fun Γ => (fa Γ).bind fun x => (fb Γ).bind fun y => g x y) := by
  refine PE.imp (pe_op ho ha hb) fun σ H Q h => ?_
  have h2 := te_two h
  obtain ⟨Γ, pa, B, b, o, h2⟩ := h2
  refine ⟨Γ, pa, B, b, o, Tr.wp_mono (fun b1 a h1 v H1 x kk r => ?_) (fun _ _ z => z) _ _ h2⟩
  obtain ⟨Γ, pa, B, b, o, h3⟩ := h1 v H1 x kk r
  refine ⟨Γ, pa, B, b, o, Tr.wp_mono (fun b1 a h1 v2 H2 x kk r => ?_) (fun _ _ z => z) _ _ h3⟩
  obtain ⟨Γ, pa, B, b, a, d, o, r1, r2, h4⟩ := h1 v2 H2 x kk r
  exact ⟨pa, B, b, a, d, _, o.rm, r1, r2, h4⟩
theorem te_twoF {fa fb : Ga → Tr D} {g : D → D → Tr D} {σ : L2.St} {H : Hp} {Q : VK} (h : tF X.K c W (fun Γ => (fa Γ).bind fun x => (fb Γ).bind fun y => g x y) σ H Q) :
    tE X.K c W fa σ H fun x H1 => tE X.K c W fb σ H1 fun y H2 => ∃ Γ pa B b a d, Okk pa B b H2 σ Γ ∧ Rep pa B H2 x a ∧ Rep pa B H2 y d ∧ (g a d).wp b (PoF pa B H2 Q) (Er X.K c W pa σ H2) := by
  obtain ⟨Γ, pa, B, b, o, h⟩ := h
  refine ⟨Γ, pa, B, b, o, Tr.wp_mono (fun b1 a h1 v H1 x k r => ?_) (fun _ _ z => z) _ _ ((Tr.wp_bind _ _).mp h)⟩
  refine ⟨Γ, pa, B, b1, o.ex x k, Tr.wp_mono (fun b2 d h2 v2 H2 x2 k2 r2 => ?_) (fun _ _ z => Er.ex z x) _ _ ((Tr.wp_bind _ _).mp h1)⟩
  exact ⟨Γ, pa, B, b2, a, d, (o.ex x k).ex x2 k2, r.ex x2 (o.ex x k).rm, r2, Tr.wp_mono (fun _ _ z => PoF.ex (x.trans x2) z) (fun _ _ z => Er.ex z (x.trans x2)) _ _ h2⟩
theorem pe_cat' {a e : Expr} {fa fb : Ga → Tr D} (ha : PE X a (tE X.K c W fa)) (hb : PE X e (tE X.K c W fb)) :
    PE X (.BinOp a .Add e pos) (tF X.K c W fun Γ => (fa Γ).bind fun x => (fb Γ).bind fun y => opCat x y) := by
  refine PE.imp (pe_op (opR_cat (τ := c.T X.K)) ha hb) fun σ H Q h => ?_
  have h2 := te_twoF h
  obtain ⟨Γ, pa, B, b, o, h2⟩ := h2
  refine ⟨Γ, pa, B, b, o, Tr.wp_mono (fun b1 a h1 v H1 x kk r => ?_) (fun _ _ z => z) _ _ h2⟩
  obtain ⟨Γ, pa, B, b, o, h3⟩ := h1 v H1 x kk r
  refine ⟨Γ, pa, B, b, o, Tr.wp_mono (fun b1 a h1 v2 H2 x kk r => ?_) (fun _ _ z => z) _ _ h3⟩
  obtain ⟨Γ, pa, B, b, a, d, o, r1, r2, h4⟩ := h1 v2 H2 x kk r
  exact ⟨pa, B, b, a, d, _, o.rm, r1, r2, h4⟩
theorem tE.mono {K : PySem.W.Frag} {f : Ga → Tr D} {σ : L2.St} {H : Hp} {Q Q' : VK} (h : tE K c W f σ H Q) (hq : ∀ v H1, Q v H1 → Q' v H1) : tE K c W f σ H Q' := by
  obtain ⟨Γ, pa, B, b, o, h⟩ := h
  exact ⟨Γ, pa, B, b, o, Tr.wp_mono (fun _ _ z v H1 x k r => hq v H1 (z v H1 x k r)) (fun _ _ z => z) _ _ h⟩
theorem tEs.mono {K : PySem.W.Frag} {f : Ga → Tr (List D)} {σ : L2.St} {H : Hp} {Q Q' : List V → Hp → Prop} (h : tEs K c W f σ H Q) (hq : ∀ v H1, Q v H1 → Q' v H1) : tEs K c W f σ H Q' := by
  obtain ⟨Γ, pa, B, b, o, h⟩ := h
  exact ⟨Γ, pa, B, b, o, Tr.wp_mono (fun _ _ z v H1 x k r => hq v H1 (z v H1 x k r)) (fun _ _ z => z) _ _ h⟩
theorem pe_un' {a : Expr} {fa : Ga → Tr D} {g : D → Tr D} {op : UnaryOp} (ho : UnR X (unaryOp op) (rD1 (c.T X.K) g)) (ha : PE X a (tE X.K c W fa)) :
    PE X (.UnaryOp op a pos) (tE X.K c W fun Γ => (fa Γ).bind g) := by
  refine PE.imp (pe_un ho ha) fun σ H Q h => ?_
  exact (te_one h).mono fun v H1 ⟨Γ, pa, B, b, a, o, r, h⟩ => ⟨pa, B, b, a, _, o.rm, r, h⟩
theorem pe_cmp' {a e : Expr} {fa fb : Ga → Tr D} {g : D → D → Tr D} {op : CmpOp} (ho : OpR X (compareOp op) (rD (c.T X.K) g)) (ha : PE X a (tE X.K c W fa)) (hb : PE X e (tE X.K c W fb)) (hm : notSet e = true) :
    PE X (.Compare a [op] [e] pos) (tE X.K c W fun Γ => (fa Γ).bind fun x => (fb Γ).bind fun y => g x y) := by
  refine PE.imp (pe_cmpR ho ha hb (marks_of hm)) fun σ H Q h => ?_
  exact (te_two h).mono fun v H1 h => h.mono fun v2 H2 ⟨Γ, pa, B, b, a, d, o, r1, r2, h⟩ => ⟨pa, B, b, a, d, _, o.rm, r1, r2, h⟩
end
end Mi
end
section
set_option linter.all false
set_option maxRecDepth 100000
set_option Elab.async false
set_option maxHeartbeats 1000000
/-! Expressions, on. -/
namespace Mi
open PySem PySem.Spec PyProof.Rows L2
section
variable {τ : Tbs} {pa : Pa τ} {B : Addr → Prop} {b : Nat} {H : Hp} {K : PySem.W.Frag}
theorem RepL.emp {vs : List V} {ds : List D} (r : RepL pa B H vs ds) : vs.isEmpty = ds.isEmpty := by cases r <;> rfl
theorem RepK.emp {vs : List (Key × V)} {ds : List (S × D)} (r : RepK pa B H vs ds) : vs.isEmpty = ds.isEmpty := by cases r <;> rfl
/-- truth -/
theorem tru {x : V} {a : D} {P : Nat → Bool → Prop} {E : Nat → Nat → Prop} (r : Rep pa B H x a) (h : (truth a).wp b P E) : ∃ k, TruV K x H k ∧ P b k := by
  cases r with
  | non => exact ⟨false, rfl, h⟩
  | bl c => exact ⟨c, rfl, h⟩
  | int i => exact ⟨_, rfl, h⟩
  | str x hx hx2 =>
    refine ⟨!x.isEmpty, ⟨by rw [str_len, line_eq]; exact hx, ?_⟩, h⟩
    rw [str_len]
    cases x with
    | nil => rfl
    | cons c t =>
      show true = (((c :: t).length : Int) != 0)
      symm
      rw [bne_iff_ne]
      rw [List.length_cons]
      omega
  | tup e l r => exact ⟨_, .inr (.inl ⟨_, SqT.of e, by rw [r.emp]⟩), h⟩
  | lst n e l r => exact ⟨_, .inl ⟨_, SqL.of e, by rw [r.emp]⟩, h⟩
  | dct n e l r => exact h.elim
  | pen => exact h.elim
  | exc _ _ _ => exact h.elim
theorem isN_eq {x : V} {a : D} (r : Rep pa B H x a) : decide (x = .non) = isNon a := by cases r <;> first | rfl | exact decide_eq_false (fun z => nomatch z)
end
section
variable {X : Cx} {c : Cfg} {sc : Scope} {cl : Cl} {k : Nat} {W : WX} {pos : Pos} {a e : Expr} {fa fb fc : Ga → Tr D} {ta tb : Ga → Tr Bool}
theorem tT.mono {K : PySem.W.Frag} {f : Ga → Tr Bool} {σ : L2.St} {H : Hp} {Q Q' : Bool → Hp → Prop} (h : tT K c W f σ H Q) (hq : ∀ v H1, Q v H1 → Q' v H1) : tT K c W f σ H Q' := by
  obtain ⟨Γ, pa, B, b, o, h⟩ := h
  exact ⟨Γ, pa, B, b, o, Tr.wp_mono (fun _ _ z H1 x k => hq _ H1 (z H1 x k)) (fun _ _ z => z) _ _ h⟩
/-- a test by truth -/
theorem pt_tru (ha : PE X a (tE X.K c W fa)) (hp : plainTest a = true) : PT X a (tT X.K c W fun Γ => (fa Γ).bind truth) := by
  refine PT.imp (pt_truth ha (isTrue_of hp)) fun σ H Q h => ?_
  obtain ⟨Γ, pa, B, b, o, h⟩ := h
  refine ⟨Γ, pa, B, b, o, Tr.wp_mono (fun b1 a h1 v H1 x kk r => ?_) (fun _ _ z => z) _ _ ((Tr.wp_bind _ _).mp h)⟩
  obtain ⟨k, h2, h3⟩ := tru (K := X.K) r h1
  exact ⟨k, h2, h3 H1 x kk⟩
theorem pe_not' (ha : PE X a (tE X.K c W fa)) : PE X (.UnaryOp .Not a pos) (tE X.K c W fun Γ => (fa Γ).bind fun x => (truth x).bind fun b => .ok (.bl (!b))) := by
  refine PE.imp (pe_notT ha) fun σ H Q h => ?_
  refine (te_one h).mono fun v H1 ⟨Γ, pa, B, b, a, o, r, h⟩ => ?_
  obtain ⟨k, h2, h3⟩ := tru (K := X.K) r ((Tr.wp_bind _ _).mp h)
  exact ⟨k, h2, Po.here h3 o.rm (.bl _)⟩
theorem asB {τ : Tbs} {pa : Pa τ} {B : Addr → Prop} {H : Hp} {b : Nat} {x : V} {a : D} {P : Nat → Bool → Prop} {E : Nat → Nat → Prop} (r : Rep pa B H x a) (h : (asBool a).wp b P E) : ∃ k, x = .bl k ∧ a = .bl k ∧ P b k := by
  cases r with
  | bl c => exact ⟨c, rfl, rfl, h⟩
  | _ => exact h.elim
theorem pe_and' {rest : List Expr} (ha : PE X a (tE X.K c W fa)) (hb : PE X (.BoolOp .And (e :: rest) pos) (tE X.K c W fb)) :
    PE X (.BoolOp .And (a :: e :: rest) pos) (tE X.K c W fun Γ => (fa Γ).bind fun x => (asBool x).bind fun c => match c with
      | true => (fb Γ).bind fun y => (asBool y).bind fun d => .ok (.bl d)
      | false => .ok (.bl false)) := by
  refine PE.imp (pe_and ha hb) fun σ H Q h => ?_
  obtain ⟨Γ, pa, B, b, o, h⟩ := h
  refine ⟨Γ, pa, B, b, o, Tr.wp_mono (fun b1 a h1 v H1 x kk r => ?_) (fun _ _ z => z) _ _ ((Tr.wp_bind _ _).mp h)⟩
  obtain ⟨k, e1, e2, h2⟩ := asB r ((Tr.wp_bind _ _).mp h1)
  refine ⟨k, e1, ?_⟩
  have o1 := o.ex x kk
  cases k with
  | false =>
    refine iteF ?_
    exact Po.here (Po.ex x h2) o1.rm (.bl _)
  | true =>
    refine iteT ?_
    refine ⟨Γ, pa, B, b1, o1, Tr.wp_mono (fun b2 a2 h3 v2 H2 x2 k2 r2 => ?_) (fun _ _ z => Er.ex z x) _ _ ((Tr.wp_bind _ _).mp h2)⟩
    obtain ⟨k', e3, e4, h4⟩ := asB r2 ((Tr.wp_bind _ _).mp h3)
    subst e3
    exact h4 _ _ (x.trans x2) k2 (.bl _)
theorem pe_or' {rest : List Expr} (ha : PE X a (tE X.K c W fa)) (hb : PE X (.BoolOp .Or (e :: rest) pos) (tE X.K c W fb)) :
    PE X (.BoolOp .Or (a :: e :: rest) pos) (tE X.K c W fun Γ => (fa Γ).bind fun x => (asBool x).bind fun c => match c with
      | true => .ok (.bl true)
      | false => (fb Γ).bind fun y => (asBool y).bind fun d => .ok (.bl d)) := by
  refine PE.imp (pe_or ha hb) fun σ H Q h => ?_
  obtain ⟨Γ, pa, B, b, o, h⟩ := h
  refine ⟨Γ, pa, B, b, o, Tr.wp_mono (fun b1 a h1 v H1 x kk r => ?_) (fun _ _ z => z) _ _ ((Tr.wp_bind _ _).mp h)⟩
  obtain ⟨k, e1, e2, h2⟩ := asB r ((Tr.wp_bind _ _).mp h1)
  refine ⟨k, e1, ?_⟩
  have o1 := o.ex x kk
  cases k with
  | true =>
    refine iteT ?_
    exact Po.here (Po.ex x h2) o1.rm (.bl _)
  | false =>
    refine iteF ?_
    refine ⟨Γ, pa, B, b1, o1, Tr.wp_mono (fun b2 a2 h3 v2 H2 x2 k2 r2 => ?_) (fun _ _ z => Er.ex z x) _ _ ((Tr.wp_bind _ _).mp h2)⟩
    obtain ⟨k', e3, e4, h4⟩ := asB r2 ((Tr.wp_bind _ _).mp h3)
    subst e3
    exact h4 _ _ (x.trans x2) k2 (.bl _)
/-- the evaluator's and, as a test -/
def andB (fa fb : Ga → Tr D) : Ga → Tr D := fun Γ => (fa Γ).bind fun x => (asBool x).bind fun c => match c with
      | true => (fb Γ).bind fun y => (asBool y).bind fun d => .ok (.bl d)
      | false => .ok (.bl false)
def orB (fa fb : Ga → Tr D) : Ga → Tr D := fun Γ => (fa Γ).bind fun x => (asBool x).bind fun c => match c with
      | true => .ok (.bl true)
      | false => (fb Γ).bind fun y => (asBool y).bind fun d => .ok (.bl d)
theorem asBool_truth {b : Nat} {d : D} {P : Nat → Bool → Prop} {E : Nat → Nat → Prop} (h : (asBool d).wp b P E) : (truth d).wp b P E := by
  cases d <;> first | exact h | exact h.elim
theorem pw_and' {rest : List Expr} (ha : PT X a (tT X.K c W fun Γ => (fa Γ).bind truth)) (hb : PW X (.BoolOp .And (e :: rest) pos) (tT X.K c W fun Γ => (fb Γ).bind truth)) :
    PW X (.BoolOp .And (a :: e :: rest) pos) (tT X.K c W fun Γ => (andB fa fb Γ).bind truth) := by
  refine PW.imp (pw_and ha hb) fun σ H Q h => ?_
  obtain ⟨Γ, pa, B, b, o, h⟩ := h
  refine ⟨Γ, pa, B, b, o, ?_⟩
  have h1 := (Tr.wp_bind _ _).mp ((Tr.wp_bind _ _).mp h)
  refine (Tr.wp_bind _ _).mpr (Tr.wp_mono (fun b1 x h2 => asBool_truth (Tr.wp_mono (fun b2 k h3 H1 ex1 k1 => ?_) (fun _ _ z => z) _ _ ((Tr.wp_bind _ _).mp h2))) (fun _ _ z => z) _ _ h1)
  have o1 := o.ex ex1 k1
  cases k with
  | false =>
    refine iteF ?_
    exact h3 H1 ex1 k1
  | true =>
    refine iteT ?_
    refine ⟨Γ, pa, B, b2, o1, (Tr.wp_bind _ _).mpr (Tr.wp_mono (fun b4 y h4 => asBool_truth (Tr.wp_mono (fun b5 d h5 H2 ex2 k2 => h5 H2 (ex1.trans ex2) k2) (fun _ _ z => Er.ex z ex1) _ _ ((Tr.wp_bind _ _).mp h4))) (fun _ _ z => Er.ex z ex1) _ _ ((Tr.wp_bind _ _).mp h3))⟩
theorem pw_or' {rest : List Expr} (ha : PT X a (tT X.K c W fun Γ => (fa Γ).bind truth)) (hb : PW X (.BoolOp .Or (e :: rest) pos) (tT X.K c W fun Γ => (fb Γ).bind truth)) :
    PW X (.BoolOp .Or (a :: e :: rest) pos) (tT X.K c W fun Γ => (orB fa fb Γ).bind truth) := by
  refine PW.imp (pw_or ha hb) fun σ H Q h => ?_
  obtain ⟨Γ, pa, B, b, o, h⟩ := h
  refine ⟨Γ, pa, B, b, o, ?_⟩
  have h1 := (Tr.wp_bind _ _).mp ((Tr.wp_bind _ _).mp h)
  refine (Tr.wp_bind _ _).mpr (Tr.wp_mono (fun b1 x h2 => asBool_truth (Tr.wp_mono (fun b2 k h3 H1 ex1 k1 => ?_) (fun _ _ z => z) _ _ ((Tr.wp_bind _ _).mp h2))) (fun _ _ z => z) _ _ h1)
  have o1 := o.ex ex1 k1
  cases k with
  | true =>
    refine iteT ?_
    exact h3 H1 ex1 k1
  | false =>
    refine iteF ?_
    refine ⟨Γ, pa, B, b2, o1, (Tr.wp_bind _ _).mpr (Tr.wp_mono (fun b4 y h4 => asBool_truth (Tr.wp_mono (fun b5 d h5 H2 ex2 k2 => h5 H2 (ex1.trans ex2) k2) (fun _ _ z => Er.ex z ex1) _ _ ((Tr.wp_bind _ _).mp h4))) (fun _ _ z => Er.ex z ex1) _ _ ((Tr.wp_bind _ _).mp h3))⟩
theorem pt_not' (ha : PT X a (tT X.K c W fun Γ => (fa Γ).bind truth)) : PT X (.UnaryOp .Not a pos) (tT X.K c W fun Γ => ((fa Γ).bind fun x => (truth x).bind fun b => .ok (.bl (!b))).bind truth) := by
  refine PT.imp (pt_not ha) fun σ H Q h => ?_
  obtain ⟨Γ, pa, B, b, o, h⟩ := h
  refine ⟨Γ, pa, B, b, o, (Tr.wp_bind _ _).mpr ?_⟩
  have h1 := (Tr.wp_bind _ _).mp ((Tr.wp_bind _ _).mp h)
  exact Tr.wp_mono (fun b1 x h2 => Tr.wp_mono (fun b2 k h3 H1 ex1 k1 => h3 H1 ex1 k1) (fun _ _ z => z) _ _ ((Tr.wp_bind _ _).mp h2)) (fun _ _ z => z) _ _ h1
theorem opIn_bl (neg : Bool) (x y : D) : opIn neg x y = .stuck ∨ ∃ k, opIn neg x y = .ok (.bl k) := by
  unfold opIn
  split
  · exact .inr ⟨_, rfl⟩
  · split
    · exact .inr ⟨_, rfl⟩
    · exact .inl rfl
  · split
    · exact .inr ⟨_, rfl⟩
    · exact .inl rfl
  · split
    · exact .inr ⟨_, rfl⟩
    · exact .inl rfl
  · exact .inl rfl
/-- a comparison's answer is a truth value -/
theorem cmp_bl (o : COp) (x y : D) {b : Nat} {P : Nat → D → Prop} {E : Nat → Nat → Prop} (h : (o.run x y).wp b P E) : (o.run x y).wp b (fun b d => (∃ k, d = .bl k) ∧ P b d) E := by
  cases o with
  | lt => cases x <;> cases y <;> first | exact ⟨⟨_, rfl⟩, h⟩ | exact h.elim
  | le => cases x <;> cases y <;> first | exact ⟨⟨_, rfl⟩, h⟩ | exact h.elim
  | gt => cases x <;> cases y <;> first | exact ⟨⟨_, rfl⟩, h⟩ | exact h.elim
  | ge => cases x <;> cases y <;> first | exact ⟨⟨_, rfl⟩, h⟩ | exact h.elim
  | eq =>
    simp only [COp.run, opEq] at h ⊢
    split
    · rename_i q
      rw [if_pos q] at h
      exact ⟨⟨_, rfl⟩, h⟩
    · rename_i q
      rw [if_neg q] at h
      exact h
  | ne =>
    simp only [COp.run, opNe] at h ⊢
    split
    · rename_i q
      rw [if_pos q] at h
      exact ⟨⟨_, rfl⟩, h⟩
    · rename_i q
      rw [if_neg q] at h
      exact h
  | isin =>
    simp only [COp.run] at h ⊢
    rcases opIn_bl _ x y with e | ⟨k, e⟩
    · rw [e] at h
      exact h.elim
    · rw [e] at h ⊢
      exact ⟨⟨_, rfl⟩, h⟩
  | notin =>
    simp only [COp.run] at h ⊢
    rcases opIn_bl _ x y with e | ⟨k, e⟩
    · rw [e] at h
      exact h.elim
    · rw [e] at h ⊢
      exact ⟨⟨_, rfl⟩, h⟩
theorem pt_cmp' {o : COp} {op : CmpOp} (ho : OpR X (compareOp op) (rD (c.T X.K) o.run)) (ha : PE X a (tE X.K c W fa)) (hb : PE X e (tE X.K c W fb)) (hm : notSet e = true) :
    PT X (.Compare a [op] [e] pos) (tT X.K c W fun Γ => ((fa Γ).bind fun x => (fb Γ).bind fun y => o.run x y).bind truth) := by
  refine PT.imp (pt_cmpR ho ha hb (marks_of hm)) fun σ H Q h => ?_
  obtain ⟨Γ, pa, B, b, ok, h⟩ := h
  have h1 := (Tr.wp_bind _ _).mp ((Tr.wp_bind _ _).mp h)
  refine ⟨Γ, pa, B, b, ok, Tr.wp_mono (fun b1 d1 h2 v H1 x kk r => ?_) (fun _ _ z => z) _ _ h1⟩
  refine ⟨Γ, pa, B, b1, ok.ex x kk, Tr.wp_mono (fun b2 d2 h3 v2 H2 x2 k2 r2 => ?_) (fun _ _ z => Er.ex z x) _ _ ((Tr.wp_bind _ _).mp h2)⟩
  refine ⟨pa, B, b2, d1, d2, _, ((ok.ex x kk).ex x2 k2).rm, r.ex x2 (ok.ex x kk).rm, r2, Tr.wp_mono (fun b3 d3 h4 v3 H3 x3 k3 r3 => ?_) (fun _ _ z => z) _ _ (cmp_bl o _ _ h3)⟩
  obtain ⟨⟨k, e3⟩, h4⟩ := h4
  subst e3
  cases r3
  exact ⟨k, rfl, h4 H3 ((x.trans x2).trans x3) k3⟩
theorem lastMarks_of {o o' : CmpOp} {x y : Expr} (h : notSet y = true) : lastMarks [o, o'] [x, y] = false := marks_of h
theorem pe_chain' {g : Expr} {o o' : COp} {op op' : CmpOp} (ho : OpR X (compareOp op) (rD (c.T X.K) o.run)) (ho' : OpR X (compareOp op') (rD (c.T X.K) o'.run)) (ha : PE X a (tE X.K c W fa)) (hb : PE X e (tE X.K c W fb)) (hg : PE X g (tE X.K c W fc)) (hm : notSet g = true) :
    PE X (.Compare a [op, op'] [e, g] pos) (tE X.K c W fun Γ => (fa Γ).bind fun x => (fb Γ).bind fun y => (o.run x y).bind fun r => (asBool r).bind fun k => match k with
    | true => (fc Γ).bind fun z => o'.run y z
    | false => .ok (.bl false)) := by
  refine PE.imp (pe_chain ho ho' ha hb hg (lastMarks_of hm)) fun σ H Q h => ?_
  obtain ⟨Γ, pa, B, b, ok, h⟩ := h
  refine ⟨Γ, pa, B, b, ok, Tr.wp_mono (fun b1 d1 h2 v H1 x kk r => ?_) (fun _ _ z => z) _ _ ((Tr.wp_bind _ _).mp h)⟩
  have ok1 := ok.ex x kk
  refine ⟨Γ, pa, B, b1, ok1, Tr.wp_mono (fun b2 d2 h3 v2 H2 x2 k2 r2 => ?_) (fun _ _ z => Er.ex z x) _ _ ((Tr.wp_bind _ _).mp h2)⟩
  have ok2 := ok1.ex x2 k2
  refine ⟨pa, B, b2, d1, d2, _, ok2.rm, r.ex x2 ok1.rm, r2, Tr.wp_mono (fun b3 d3 h4 v3 H3 x3 k3 r3 => ?_) (fun _ _ z => z) _ _ ((Tr.wp_bind _ _).mp h3)⟩
  obtain ⟨k, e1, e2, h5⟩ := asB r3 ((Tr.wp_bind _ _).mp h4)
  have ok3 := ok2.ex x3 k3
  refine ⟨k, e1, ?_⟩
  cases k with
  | false =>
    refine iteF ?_
    exact h5 _ _ ((x.trans x2).trans x3) k3 (.bl _)
  | true =>
    refine iteT ?_
    refine ⟨Γ, pa, B, b3, ok3, Tr.wp_mono (fun b4 d4 h6 v4 H4 x4 k4 r4 => ?_) (fun _ _ z => Er.ex z ((x.trans x2).trans x3)) _ _ ((Tr.wp_bind _ _).mp h5)⟩
    exact ⟨pa, B, b4, d2, d4, _, (ok3.ex x4 k4).rm, (r2.ex x3 ok2.rm).ex x4 ok3.rm, r4, Tr.wp_mono (fun _ _ z => Po.ex (((x.trans x2).trans x3).trans x4) z) (fun _ _ z => z) _ _ h6⟩
theorem pt_chain' {g : Expr} {o o' : COp} {op op' : CmpOp} (ho : OpR X (compareOp op) (rD (c.T X.K) o.run)) (ho' : OpR X (compareOp op') (rD (c.T X.K) o'.run)) (ha : PE X a (tE X.K c W fa)) (hb : PE X e (tE X.K c W fb)) (hg : PE X g (tE X.K c W fc)) (hm : notSet g = true) :
    PT X (.Compare a [op, op'] [e, g] pos) (tT X.K c W fun Γ => ((fa Γ).bind fun x => (fb Γ).bind fun y => (o.run x y).bind fun r => (asBool r).bind fun k => match k with
    | true => (fc Γ).bind fun z => o'.run y z
    | false => .ok (.bl false)).bind truth) := by
  refine PT.imp (pt_chain ho ho' ha hb hg (lastMarks_of hm)) fun σ H Q h => ?_
  obtain ⟨Γ, pa, B, b, ok, h⟩ := h
  refine ⟨Γ, pa, B, b, ok, Tr.wp_mono (fun b1 d1 h2 v H1 x kk r => ?_) (fun _ _ z => z) _ _ ((Tr.wp_bind _ _).mp ((Tr.wp_bind _ _).mp h))⟩
  have ok1 := ok.ex x kk
  refine ⟨Γ, pa, B, b1, ok1, Tr.wp_mono (fun b2 d2 h3 v2 H2 x2 k2 r2 => ?_) (fun _ _ z => Er.ex z x) _ _ ((Tr.wp_bind _ _).mp h2)⟩
  have ok2 := ok1.ex x2 k2
  refine ⟨pa, B, b2, d1, d2, _, ok2.rm, r.ex x2 ok1.rm, r2, Tr.wp_mono (fun b3 d3 h4 v3 H3 x3 k3 r3 => ?_) (fun _ _ z => z) _ _ ((Tr.wp_bind _ _).mp h3)⟩
  obtain ⟨k, e1, e2, h5⟩ := asB r3 ((Tr.wp_bind _ _).mp h4)
  have ok3 := ok2.ex x3 k3
  refine ⟨k, e1, ?_⟩
  cases k with
  | false =>
    refine iteF ?_
    exact ⟨false, rfl, h5 _ ((x.trans x2).trans x3) k3⟩
  | true =>
    refine iteT ?_
    refine ⟨Γ, pa, B, b3, ok3, Tr.wp_mono (fun b4 d4 h6 v4 H4 x4 k4 r4 => ?_) (fun _ _ z => Er.ex z ((x.trans x2).trans x3)) _ _ ((Tr.wp_bind _ _).mp h5)⟩
    refine ⟨pa, B, b4, d2, d4, _, (ok3.ex x4 k4).rm, (r2.ex x3 ok2.rm).ex x4 ok3.rm, r4, Tr.wp_mono (fun b5 d5 h7 v5 H5 x5 k5 r5 => ?_) (fun _ _ z => z) _ _ (cmp_bl o' _ _ h6)⟩
    obtain ⟨⟨k', e5⟩, h7⟩ := h7
    subst e5
    cases r5
    exact ⟨k', rfl, h7 H5 ((((x.trans x2).trans x3).trans x4).trans x5) k5⟩
theorem pe_isN' {neg : Bool} {j : Nat} {p : Pos} (ha : PE X a (tE X.K c W fa)) (op : CmpOp) (ho : op = match neg with | true => CmpOp.IsNot | false => CmpOp.Is) :
    PE X (.Compare a [op] [.Constant .none j p] pos) (tE X.K c W fun Γ => (fa Γ).bind fun x => .ok (.bl (xor neg (isNon x)))) := by
  subst ho
  cases neg with
  | false =>
    refine PE.imp (pe_cmpR op_isN ha pe_non (marks_of rfl)) fun σ H Q h => ?_
    refine (te_one h).mono fun v H1 ⟨Γ, pa, B, b, a, o, r, h⟩ => ⟨rfl, ?_⟩
    rw [isN_eq r]
    have := Po.here h o.rm (.bl _)
    simpa using this
  | true =>
    refine PE.imp (pe_cmpR op_notN ha pe_non (marks_of rfl)) fun σ H Q h => ?_
    refine (te_one h).mono fun v H1 ⟨Γ, pa, B, b, a, o, r, h⟩ => ⟨rfl, ?_⟩
    rw [isN_eq r]
    have := Po.here h o.rm (.bl _)
    simpa using this
theorem pt_isN' {neg : Bool} {j : Nat} {p : Pos} (ha : PE X a (tE X.K c W fa)) (op : CmpOp) (ho : op = match neg with | true => CmpOp.IsNot | false => CmpOp.Is) :
    PT X (.Compare a [op] [.Constant .none j p] pos) (tT X.K c W fun Γ => ((fa Γ).bind fun x => .ok (.bl (xor neg (isNon x)))).bind truth) := by
  have go : ∀ {σ : L2.St} {H : Hp} {Q : Bool → Hp → Prop} {z : Bool}, tT X.K c W (fun Γ => ((fa Γ).bind fun x => .ok (.bl (xor neg (isNon x)))).bind truth) σ H Q → tE X.K c W fa σ H fun x H1 => Q (xor neg (decide (x = .non))) H1 := by
    intro σ H Q z h
    obtain ⟨Γ, pa, B, b, o, h⟩ := h
    refine ⟨Γ, pa, B, b, o, Tr.wp_mono (fun b1 a h1 v H1 x kk r => ?_) (fun _ _ z => z) _ _ ((Tr.wp_bind _ _).mp ((Tr.wp_bind _ _).mp h))⟩
    show Q (xor neg (decide (v = .non))) H1
    rw [isN_eq r]
    exact h1 H1 x kk
  subst ho
  cases neg with
  | false =>
    refine PT.imp (pt_cmpR op_isN ha pe_non (marks_of rfl)) fun σ H Q h => ?_
    exact (go (z := false) h).mono fun v H1 h => ⟨rfl, _, rfl, by simpa using h⟩
  | true =>
    refine PT.imp (pt_cmpR op_notN ha pe_non (marks_of rfl)) fun σ H Q h => ?_
    exact (go (z := false) h).mono fun v H1 h => ⟨rfl, _, rfl, by simpa using h⟩
theorem pe_if' {t : Expr} {ft : Ga → Tr D} (ht : PT X t (tT X.K c W fun Γ => (ft Γ).bind truth)) (ha : PE X a (tE X.K c W fa)) (hb : PE X e (tE X.K c W fb)) :
    PE X (.IfExp t a e pos) (tE X.K c W fun Γ => (ft Γ).bind fun x => (truth x).bind fun c => match c with
    | true => fa Γ
    | false => fb Γ) := by
  refine PE.imp (pe_ifExp ht ha hb) fun σ H Q h => ?_
  obtain ⟨Γ, pa, B, b, o, h⟩ := h
  refine ⟨Γ, pa, B, b, o, (Tr.wp_bind _ _).mpr (Tr.wp_mono (fun b1 x h1 => Tr.wp_mono (fun b2 k h2 H1 ex kk => ?_) (fun _ _ z => z) _ _ ((Tr.wp_bind _ _).mp h1)) (fun _ _ z => z) _ _ ((Tr.wp_bind _ _).mp h))⟩
  have o1 := o.ex ex kk
  cases k with
  | true =>
    refine iteT ?_
    exact ⟨Γ, pa, B, b2, o1, Tr.wp_mono (fun _ _ z => Po.ex ex z) (fun _ _ z => Er.ex z ex) _ _ h2⟩
  | false =>
    refine iteF ?_
    exact ⟨Γ, pa, B, b2, o1, Tr.wp_mono (fun _ _ z => Po.ex ex z) (fun _ _ z => Er.ex z ex) _ _ h2⟩
end
end Mi
end
section
set_option linter.all false
set_option maxRecDepth 100000
set_option Elab.async false
set_option maxHeartbeats 1000000
/-! Expressions: displays, calls, subscripts, tables. -/
namespace Mi
open PySem PySem.Spec PyProof.Rows L2
section
variable {X : Cx} {c : Cfg} {sc : Scope} {cl : Cl} {k : Nat} {W : WX} {pos : Pos} {a e : Expr} {es : List Expr} {fa fb fc : Ga → Tr D} {fs : Ga → Tr (List D)}
theorem pa_nil' : PA X [] (tEs X.K c W fun _ => .ok []) := PA.imp pa_nil fun σ H Q ⟨Γ, pa, B, b, o, h⟩ => h _ _ Ex.refl o.rm.hk .nil
theorem pa_cons' (ha : PE X a (tE X.K c W fa)) (hs : PA X es (tEs X.K c W fs)) (hn : notStar a = true) : PA X (a :: es) (tEs X.K c W fun Γ => (fa Γ).bind fun x => (fs Γ).bind fun xs => .ok (x :: xs)) := by
  refine PA.imp (pa_cons ha hs (starEach_of hn)) fun σ H Q ⟨Γ, pa, B, b, o, h⟩ => ?_
  refine ⟨Γ, pa, B, b, o, Tr.wp_mono (fun b1 d h1 v H1 x kk r => ?_) (fun _ _ z => z) _ _ ((Tr.wp_bind _ _).mp h)⟩
  have o1 := o.ex x kk
  refine ⟨Γ, pa, B, b1, o1, Tr.wp_mono (fun b2 ds h2 vs H2 x2 k2 r2 => ?_) (fun _ _ z => Er.ex z x) _ _ ((Tr.wp_bind _ _).mp h1)⟩
  exact h2 _ _ (x.trans x2) k2 (.cons (r.ex x2 o1.rm) r2)
/-- arguments, then something of them -/
theorem tes_one {K : PySem.W.Frag} {g : List D → Tr D} {σ : L2.St} {H : Hp} {Q : VK} (h : tE K c W (fun Γ => (fs Γ).bind g) σ H Q) :
    tEs K c W fs σ H fun xs H1 => ∃ Γ pa B b as, Okk pa B b H1 σ Γ ∧ RepL pa B H1 xs as ∧ (g as).wp b (Po pa B H1 Q) (Er K c W pa σ H1) := by
  obtain ⟨Γ, pa, B, b, o, h⟩ := h
  refine ⟨Γ, pa, B, b, o, Tr.wp_mono (fun b1 a h1 v H1 x k r => ?_) (fun _ _ z => z) _ _ ((Tr.wp_bind _ _).mp h)⟩
  exact ⟨Γ, pa, B, b1, a, o.ex x k, r, Tr.wp_mono (fun _ _ z => Po.ex x z) (fun _ _ z => Er.ex z x) _ _ h1⟩
theorem tes_oneF {K : PySem.W.Frag} {g : List D → Tr D} {σ : L2.St} {H : Hp} {Q : VK} (h : tF K c W (fun Γ => (fs Γ).bind g) σ H Q) :
    tEs K c W fs σ H fun xs H1 => ∃ Γ pa B b as, Okk pa B b H1 σ Γ ∧ RepL pa B H1 xs as ∧ (g as).wp b (PoF pa B H1 Q) (Er K c W pa σ H1) := by
  obtain ⟨Γ, pa, B, b, o, h⟩ := h
  refine ⟨Γ, pa, B, b, o, Tr.wp_mono (fun b1 a h1 v H1 x k r => ?_) (fun _ _ z => z) _ _ ((Tr.wp_bind _ _).mp h)⟩
  exact ⟨Γ, pa, B, b1, a, o.ex x k, r, Tr.wp_mono (fun _ _ z => PoF.ex x z) (fun _ _ z => Er.ex z x) _ _ h1⟩
theorem evs_len : ∀ {e : Es} {Γ : Ga} {b : Nat} {P : Nat → List D → Prop} {E : Nat → Nat → Prop} {tb : Tabs}, (evs cl tb e Γ).wp b P E → (evs cl tb e Γ).wp b (fun b ds => ds.length = e.toL.length ∧ P b ds) E
  | .nil, _, _, _, _, _, h => ⟨rfl, h⟩
  | .cons e es, Γ, b, P, E, tb, h => by
    simp only [evs] at h ⊢
    refine (Tr.wp_bind _ _).mpr (Tr.wp_mono (fun b1 x h1 => ?_) (fun _ _ z => z) _ _ ((Tr.wp_bind _ _).mp h))
    refine (Tr.wp_bind _ _).mpr (Tr.wp_mono (fun b2 xs h2 => ?_) (fun _ _ z => z) _ _ (evs_len ((Tr.wp_bind _ _).mp h1)))
    exact ⟨congrArg Nat.succ h2.1, h2.2⟩
theorem pe_tup' {j : Nat} (hs : PA X es (tEs X.K c W fs)) (hl : ∀ Γ b P E, (fs Γ).wp b P E → (fs Γ).wp b (fun b ds => ds.length ≤ 1000 ∧ P b ds) E) : PE X (.Tuple es j pos) (tE X.K c W fun Γ => (fs Γ).bind fun xs => .ok (.tup xs)) := by
  refine PE.imp (pe_tup hs) fun σ H Q ⟨Γ, pa, B, b, o, h⟩ => ?_
  refine ⟨Γ, pa, B, b, o, Tr.wp_mono (fun b1 ds h1 vs H1 x kk r => ?_) (fun _ _ z => z) _ _ (hl _ _ _ _ ((Tr.wp_bind _ _).mp h))⟩
  have hz : vs.length ≤ line := by rw [r.length]; exact Nat.le_trans h1.1 (by decide)
  exact ⟨by rw [line_eq]; exact hz, Po.tup (Po.ex x h1.2) (o.ex x kk).rm r hz⟩
theorem pe_lst' (hs : PA X es (tEs X.K c W fs)) (hl : ∀ Γ b P E, (fs Γ).wp b P E → (fs Γ).wp b (fun b ds => ds.length ≤ 1000 ∧ P b ds) E) : PE X (.List es pos) (tF X.K c W fun Γ => (fs Γ).bind fun xs => .ok (.lst xs)) := by
  refine PE.imp (pe_lst hs) fun σ H Q ⟨Γ, pa, B, b, o, h⟩ => ?_
  refine ⟨Γ, pa, B, b, o, Tr.wp_mono (fun b1 ds h1 vs H1 x kk r => ?_) (fun _ _ z => z) _ _ (hl _ _ _ _ ((Tr.wp_bind _ _).mp h))⟩
  have hz : vs.length ≤ line := by rw [r.length]; exact Nat.le_trans h1.1 (by decide)
  exact ⟨by rw [line_eq]; exact hz, PoF.lst (PoF.ex x h1.2) (o.ex x kk).rm r hz⟩
theorem pe_dct0' : PE X (.Dict [] [] pos) (tF X.K c W fun _ => .ok (.dct [])) :=
  PE.imp pe_dnewK fun σ H Q ⟨Γ, pa, B, b, o, h⟩ p hp => (show PoF pa B H Q b (.dct []) from h) _ _ (Ex.new hp) (o.rm.hk.new hp) (.dct (o.rm.nb hp) (.inl upd_same) (Nat.zero_le _) .nil) ⟨p, rfl, Nw.of hp, NF.dct upd_same⟩
theorem pe_dct1' (ha : PE X a (tE X.K c W fa)) (hb : PE X e (tE X.K c W fb)) : PE X (.Dict [some a] [e] pos) (tF X.K c W fun Γ => (fa Γ).bind fun x => (fb Γ).bind fun y => (asStr x).bind fun z => .ok (.dct [(z, y)])) := by
  refine PE.imp (pe_disp (pps_cons ha hb pps_nil) rfl rfl (fun z => nomatch z) (by show 1 ≤ 15; decide)) fun σ H Q ⟨Γ, pa, B, b, o, h⟩ p hp => ?_
  -- the new dict is banned while its pair is made
  have kb : Keeps B (fun a => B a ∨ a = p) H (upd H p (.dK [])) := Keeps.ban hp
  have o0 : Okk pa (fun a => B a ∨ a = p) b (upd H p (.dK [])) σ Γ := ⟨⟨o.rm.hk.new hp, .inl o.rm.bp, fun q hq => by
    by_cases z : q = p
    · exact ⟨_, by rw [z]; exact upd_same, by intro ps w; cases w⟩
    · obtain ⟨u, hu, ht⟩ := o.rm.bd q (hq.resolve_right z)
      exact ⟨u, by rw [upd_ne z]; exact hu, ht⟩⟩, o.len, fun i d hd => let ⟨v, h1, h2⟩ := o.slots i d hd; ⟨v, h1, h2.keeps kb⟩⟩
  have x0 : Ex pa H (upd H p (.dK [])) := Ex.new hp
  refine ⟨Γ, pa, _, b, o0, Tr.wp_mono (fun b1 d1 h1 v H1 x kk r => ?_) (fun _ _ z => Er.ex z x0) _ _ ((Tr.wp_bind _ _).mp h)⟩
  have o1 := o0.ex x kk
  refine ⟨Γ, pa, _, b1, o1, Tr.wp_mono (fun b2 d2 h2 v2 H2 x2 k2 r2 => ?_) (fun _ _ z => Er.ex (Er.ex z x0) x) _ _ ((Tr.wp_bind _ _).mp h1)⟩
  have o2 := o1.ex x2 k2
  have e2 : H2 p = some (.dK []) := x2.keep p _ (x.keep p _ upd_same (fun z => by
    obtain ⟨xs, hx⟩ := o.rm.hk.at
    rw [← z, hp] at hx
    cases hx) (by intro ps z; cases z)) (fun z => by
    obtain ⟨xs, hx⟩ := o.rm.hk.at
    rw [← z, hp] at hx
    cases hx) (by intro ps z; cases z)
  have r1 := r.ex x2 o1.rm
  cases r1 with
  | str z hz hz2 =>
    have h3 : PoF pa B H Q b2 (.dct [(z, d2)]) := h2
    refine ⟨e2, [(.inr ⟨z.toArray⟩, v2)], rfl, by show 1 ≤ 15; decide, ?_⟩
    have hk2 := k2
    obtain ⟨n1, n2, n3, n4, n5, n6, _⟩ := o.rm.hk
    have np : p ≠ pa.p := fun z => by rw [z, n5] at hp; cases hp
    have nc : p ≠ pa.c := fun z => by rw [z, n6] at hp; cases hp
    refine h3 _ _ ⟨fun q u hq nq nt => ?_, fun q u hq ht => ?_⟩ (k2.put np nc (put_dct e2)) (.dct (o.rm.nb hp) (.inl upd_same) (by show 1 ≤ line; decide) (.cons ⟨hz, hz2⟩ ?_ .nil)) ⟨p, rfl, Nw.of hp, NF.dct upd_same⟩
    · have nqp : q ≠ p := ne_of_none hq hp
      rw [upd_ne nqp]
      exact x2.keep q u (x.keep q u (x0.keep q u hq nq nt) nq nt) nq nt
    · have nqp : q ≠ p := ne_of_none hq hp
      obtain ⟨u1, h4, t1⟩ := x0.dom q u hq ht
      obtain ⟨u2, h5, t2⟩ := x.dom q u1 h4 t1
      obtain ⟨u3, h6, t3⟩ := x2.dom q u2 h5 t2
      exact ⟨u3, by rw [upd_ne nqp]; exact h6, t3⟩
    · exact (r2.keeps (Keeps.write (.inr rfl) e2 (by intro vs z; cases z) (by intro phi z; cases z))).keeps (Keeps.less fun a ha => .inl ha)
  | _ => exact h2.elim
/-! ### calls -/
theorem pe_call' (g : Gd X c sc cl k W) (F : Fc X.prog X.w X.K X.mg X.base c cl k) {f n : Nat} {x : Str} {p : Pos} (hrp : c.rpf f = true → c.rp = true) (hd : c.defs[f]? = some (x, n)) (hx : glB sc x = true) (hx2 : okN x = true) (hs : PA X es (tEs X.K c W fs)) (hn : es.length = n) (hst : es.all notStar = true) (hne : es ≠ [])
    (hl : ∀ Γ b P E, (fs Γ).wp b P E → (fs Γ).wp b (fun b ds => ds.length = es.length ∧ P b ds) E) : PE X (.Call (.Name x p) es [] pos) (tE X.K c W fun Γ => (fs Γ).bind fun xs => cl f xs) := by
  obtain ⟨fa, fd, ps, h1, h2, h3, h4, _, h5⟩ := F.defs f x n hd
  -- the error's way goes by the slots as they stand
  refine ⟨fun pins s σ H Q I h => ?_⟩
  have ps' : Passes (L2.CX X.prog X.w) X (fun cls d H' => W cls d σ H') → True := fun _ => trivial
  obtain ⟨Γ, pa, B, b, o, h⟩ := h
  have hw : tEs X.K c W fs σ H (fun vs H1 => spC X.K c cl f n vs H1 Q (fun cls d H' => W cls d σ H')) := by
    refine ⟨Γ, pa, B, b, o, Tr.wp_mono (fun b1 ds h1 vs H1 x kk r => ?_) (fun _ _ z => z) _ _ (hl _ _ _ _ ((Tr.wp_bind _ _).mp h))⟩
    exact ⟨by rw [r.length, h1.1, hn], pa, B, b1, ds, (o.ex x kk).rm, r, Tr.wp_mono (fun _ _ z => Po.ex x z) (fun _ _ z H' y kk => Er.ex z x H' y kk) _ _ h1.2⟩
  have hgl := Gl_of g hx
  have hnm := okN_ok hx2
  refine wpAny_Call_Name_kw (ld_glob I hgl h1 ?_ hnm.1)
  have body : ∀ us s1 vs H1, L2.Inv X pins σ H1 s1 → Vals vs us → spC X.K c cl f n vs H1 Q (fun cls d H' => W cls d σ H') → wpAny (model X.prog X.w) X.A (PySem.call (.ref fa) us) (EP X pins σ Q) X.xe s1 := by
    intro us s1 vs H1 I1 r q
    have hl : (us ++ []).length = ps.length := by rw [List.append_nil, ← r.length, q.1, h4]
    have hb' := h3 s1 us I1.kIn hl
    rw [List.append_nil] at hb'
    refine wpAny_call (codeAny_mono (h5.run X.A X.stack s1 H1 ⟨us, []⟩ us vs Q _ g.room (fun z => g.gu (hrp z)) I1.env0 hb' r q) fun r s' hq => ?_)
    cases r with
    | error e => exact g.tk e s' (XE.of_call I1 (fun _ _ _ z => z) hq)
    | ok fl =>
      cases fl with
      | ret u => exact I1.after hq
      | next => exact False.elim hq
      | brk => exact False.elim hq
      | cont => exact False.elim hq
  cases es with
  | nil => exact absurd rfl hne
  | cons e es' =>
    rw [List.all_cons] at hst
    have hst' := Bool.and_eq_true_iff.mp hst
    exact PySem.W.callWith_K (h₀ := X.base) I.ok.mod.kin h2 (thn (hs.run pos pins s σ H _ I hw) fun us s1 ⟨vs, H1, I1, r, q⟩ => ⟨I1.kIn, body us s1 vs H1 I1 r q⟩) (starEach_of hst'.1) (star_any hst'.2)
/-! ### calls by keywords -/
theorem pk_nil' : PK X [] (tEs X.K c W fun _ => .ok []) := ⟨fun pos pins s σ H Q I ⟨Γ, pa, B, b, o, h⟩ => pk_nil.run pos pins s σ H Q I (h _ _ Ex.refl o.rm.hk .nil)⟩
theorem pk_cons' {kws : List Keyword} {nm : Option Str} {kpos : Pos} (ha : PE X a (tE X.K c W fa)) (hs : PK X kws (tEs X.K c W fs)) : PK X (⟨nm, a, kpos⟩ :: kws) (tEs X.K c W fun Γ => (fa Γ).bind fun x => (fs Γ).bind fun xs => .ok (x :: xs)) := by
  refine ⟨fun pos pins s σ H Q I ⟨Γ, pa, B, b, o, h⟩ => (pk_cons ha hs).run pos pins s σ H Q I ?_⟩
  refine ⟨Γ, pa, B, b, o, Tr.wp_mono (fun b1 d h1 v H1 x kk r => ?_) (fun _ _ z => z) _ _ ((Tr.wp_bind _ _).mp h)⟩
  have o1 := o.ex x kk
  refine ⟨Γ, pa, B, b1, o1, Tr.wp_mono (fun b2 ds h2 vs H2 x2 k2 r2 => ?_) (fun _ _ z => Er.ex z x) _ _ ((Tr.wp_bind _ _).mp h1)⟩
  exact h2 _ _ (x.trans x2) k2 (.cons (r.ex x2 o1.rm) r2)
theorem kw_all {env : Env} : ∀ {kws : List Keyword}, kws.all (fun q => q.arg.isSome) = true → (backToKw pos (keywordEach kws env)).all (·.1.isSome) = true
  | [], _ => rfl
  | ⟨nm, e, kp⟩ :: kws, h => by
    rw [List.all_cons, Bool.and_eq_true] at h
    show (nm.isSome && (backToKw pos (keywordEach kws env)).all (·.1.isSome)) = true
    rw [kw_all h.2, Bool.and_true]
    exact h.1
theorem kw_any {env : Env} : ∀ {kws : List Keyword}, kws.all (fun q => q.arg.isSome) = true → (backToKw pos (keywordEach kws env)).any (·.1.isNone) = false
  | [], _ => rfl
  | ⟨nm, e, kp⟩ :: kws, h => by
    rw [List.all_cons, Bool.and_eq_true] at h
    show (nm.isNone || (backToKw pos (keywordEach kws env)).any (·.1.isNone)) = false
    rw [kw_any h.2, Bool.or_false]
    cases nm with
    | none => cases h.1
    | some _ => rfl
theorem kw_names {env : Env} : ∀ {kws : List Keyword}, (backToKw pos (keywordEach kws env)).filterMap (·.1) = kws.filterMap (·.arg)
  | [] => rfl
  | ⟨nm, e, kp⟩ :: kws => by
    have e1 : backToKw pos (keywordEach (⟨nm, e, kp⟩ :: kws) env) = (nm, (do let v ← eval e env; standAt pos; pure v)) :: backToKw pos (keywordEach kws env) := rfl
    rw [e1, List.filterMap_cons, List.filterMap_cons, kw_names]
theorem perm_vals {vs : List V} {us : List Value} (r : Vals vs us) (pm : List Nat) : Vals (pm.map fun i => vs.getD i V.non) (pm.map fun i => us.getD i Value.none) := by
  induction pm with
  | nil => exact .nil
  | cons i pm ih =>
    refine .cons ?_ ih
    show RelV (vs.getD i V.non) (us.getD i Value.none)
    rw [List.getD_eq_getElem?_getD, List.getD_eq_getElem?_getD]
    cases hv : vs[i]? with
    | none =>
      have : us[i]? = none := by
        rw [List.getElem?_eq_none_iff] at hv ⊢
        rw [← r.length]
        exact hv
      rw [this]
      exact rfl
    | some x =>
      obtain ⟨u, hu, ru⟩ := r.get hv
      rw [hu]
      exact ru
theorem perm_rep {τ : Tbs} {pa : Pa τ} {B : Addr → Prop} {H : Hp} {vs : List V} {ds : List D} (r : RepL pa B H vs ds) (pm : List Nat) : RepL pa B H (pm.map fun i => vs.getD i V.non) (pm.map fun i => ds.getD i D.non) := by
  induction pm with
  | nil => exact .nil
  | cons i pm ih =>
    refine .cons ?_ ih
    show Rep pa B H (vs.getD i V.non) (ds.getD i D.non)
    rw [List.getD_eq_getElem?_getD, List.getD_eq_getElem?_getD]
    cases hv : ds[i]? with
    | none =>
      have : vs[i]? = none := by
        rw [List.getElem?_eq_none_iff] at hv ⊢
        rw [r.length]
        exact hv
      rw [this]
      exact .non
    | some x =>
      obtain ⟨u, hu, ru⟩ := r.get hv
      rw [hu]
      exact ru
theorem pe_callKw' {kws : List Keyword} (g : Gd X c sc cl k W) (F : Fc X.prog X.w X.K X.mg X.base c cl k) {f n : Nat} {x : Str} {p : Pos} {ks : List Str} {pm : List Nat} (hrp : c.rpf f = true → c.rp = true) (hd : c.defs[f]? = some (x, n)) (hx : glB sc x = true) (hx2 : okN x = true) (hm : (f, ks, pm) ∈ c.kws) (hs : PK X kws (tEs X.K c W fs)) (ha : kws.all (fun q => q.arg.isSome) = true) (hks : kws.filterMap (·.arg) = ks)
    (hl : ∀ Γ b P E, (fs Γ).wp b P E → (fs Γ).wp b (fun b ds => ds.length = ks.length ∧ P b ds) E) : PE X (.Call (.Name x p) [] kws pos) (tE X.K c W fun Γ => (fs Γ).bind fun xs => cl f (pm.map fun i => xs.getD i D.non)) := by
  obtain ⟨fa, fd, ps, h1, h2, h3, h4, hkw, h5⟩ := F.defs f x n hd
  obtain ⟨k1, k2⟩ := hkw ks pm hm
  refine ⟨fun pins s σ H Q I h => ?_⟩
  obtain ⟨Γ, pa, B, b, o, h⟩ := h
  have hw : tEs X.K c W fs σ H (fun vs H1 => vs.length = ks.length ∧ spC X.K c cl f n (pm.map fun i => vs.getD i V.non) H1 Q (fun cls d H' => W cls d σ H')) := by
    refine ⟨Γ, pa, B, b, o, Tr.wp_mono (fun b1 ds h1 vs H1 x kk r => ?_) (fun _ _ z => z) _ _ (hl _ _ _ _ ((Tr.wp_bind _ _).mp h))⟩
    exact ⟨by rw [r.length, h1.1], by rw [List.length_map, k1, h4], pa, B, b1, _, (o.ex x kk).rm, perm_rep r pm, Tr.wp_mono (fun _ _ z => Po.ex x z) (fun _ _ z H' y kk => Er.ex z x H' y kk) _ _ h1.2⟩
  have hgl := Gl_of g hx
  have hnm := okN_ok hx2
  refine wpAny_Call_Name_kw (ld_glob I hgl h1 ?_ hnm.1)
  have body : ∀ us s1 vs H1, L2.Inv X pins σ H1 s1 → Vals vs us → vs.length = ks.length → spC X.K c cl f n (pm.map fun i => vs.getD i V.non) H1 Q (fun cls d H' => W cls d σ H') → wpAny (model X.prog X.w) X.A (PySem.call (.ref fa) [] (ks.zip us)) (EP X pins σ Q) X.xe s1 := by
    intro us s1 vs H1 I1 r hlv q
    have hb' := k2 s1 us (by rw [← r.length, hlv])
    refine wpAny_call (codeAny_mono (h5.run X.A X.stack s1 H1 ⟨[], ks.zip us⟩ _ _ Q _ g.room (fun z => g.gu (hrp z)) I1.env0 hb' (perm_vals r pm) q) fun r s' hq => ?_)
    cases r with
    | error e => exact g.tk e s' (XE.of_call I1 (fun _ _ _ z => z) hq)
    | ok fl =>
      cases fl with
      | ret u => exact I1.after hq
      | next => exact False.elim hq
      | brk => exact False.elim hq
      | cont => exact False.elim hq
  refine PySem.W.callWith_KW0 (h₀ := X.base) I.ok.mod.kin h2 (kw_all ha) (thn (hs.run pos pins s σ H _ I hw) fun us s1 ⟨vs, H1, I1, r, hlv, q⟩ => ⟨I1.kIn, ?_⟩) (by
    rw [kw_any ha]
    rfl)
  rw [kw_names, hks]
  exact body us s1 vs H1 I1 r hlv q
end
end Mi
end
section
set_option linter.all false
set_option maxRecDepth 100000
set_option Elab.async false
set_option maxHeartbeats 1000000
/-! Expressions: built-in functions, subscripts, tables. -/
namespace Mi
open PySem PySem.Spec PyProof.Rows L2
theorem boot_all : bootBuiltins "all" = some (.builtin "all") := by decide +kernel
theorem boot_abs : bootBuiltins "abs" = some (.builtin "abs") := by decide +kernel
theorem boot_isi : bootBuiltins "isinstance" = some (.builtin "isinstance") := by decide +kernel
section
variable {X : Cx} {c : Cfg} {sc : Scope} {cl : Cl} {k : Nat} {W : WX} {pos : Pos} {a e : Expr} {es : List Expr} {fa fb fc : Ga → Tr D} {fs : Ga → Tr (List D)}
theorem callR_list {τ : Tbs} : CallR X (.type "list") (rDsF τ (Bi.run .list)) := by
  intro pins s σ H xs us Q I r h
  obtain ⟨pa, B, b, as, E, rm, ra, h⟩ := h
  cases ra with
  | nil => exact h.elim
  | cons r1 rr =>
    cases rr with
    | cons _ _ => cases r1 <;> exact h.elim
    | nil =>
      cases r1 with
      | lst n e l r1 => exact call_list_of pins s σ H _ us Q I r ⟨_, _, rfl, .inl (SqL.of e), PoF.lst h rm r1 l⟩
      | tup e l r1 => exact call_list_of pins s σ H _ us Q I r ⟨_, _, rfl, .inr (SqT.of e), PoF.lst h rm r1 l⟩
      | _ => exact h.elim
theorem pe_bi' {id : String} {f : Bi} {x : Str} {p : Pos} (hc : CallR X (.builtin id) (rDs (c.T X.K) f.run)) (hg : Gl X x) (hm : X.mg x = none) (hv : bootBuiltins x = some (.builtin id)) (hx : okN x = true) (hs : PA X (e :: es) (tEs X.K c W fs)) (hst : (e :: es).all notStar = true) :
    PE X (.Call (.Name x p) (e :: es) [] pos) (tE X.K c W fun Γ => (fs Γ).bind fun xs => f.run xs) := by
  rw [List.all_cons] at hst
  have hst' := Bool.and_eq_true_iff.mp hst
  refine PE.imp (pe_callB hc hg hm hv hs (okN_ok hx).2.2 (okN_ok hx).1 (starEach_of hst'.1) (star_any hst'.2)) fun σ H Q h => ?_
  exact (tes_one h).mono fun xs H1 ⟨Γ, pa, B, b, as, o, r, h⟩ => ⟨pa, B, b, as, _, o.rm, r, h⟩
theorem pe_biT' {T : String} {f : Bi} {x : Str} {p : Pos} (hc : CallR X (.type T) (rDs (c.T X.K) f.run)) (hg : Gl X x) (hm : X.mg x = none) (hv : bootBuiltins x = some (.type T)) (hx : okN x = true) (hs : PA X (e :: es) (tEs X.K c W fs)) (hst : (e :: es).all notStar = true) :
    PE X (.Call (.Name x p) (e :: es) [] pos) (tE X.K c W fun Γ => (fs Γ).bind fun xs => f.run xs) := by
  rw [List.all_cons] at hst
  have hst' := Bool.and_eq_true_iff.mp hst
  refine PE.imp (pe_callTy hc hg hm hv hs (okN_ok hx).2.2 (okN_ok hx).1 (starEach_of hst'.1) (star_any hst'.2)) fun σ H Q h => ?_
  exact (tes_one h).mono fun xs H1 ⟨Γ, pa, B, b, as, o, r, h⟩ => ⟨pa, B, b, as, _, o.rm, r, h⟩
theorem pe_list' {x : Str} {p : Pos} (hg : Gl X x) (hm : X.mg x = none) (hv : bootBuiltins x = some (.type "list")) (hx : okN x = true) (hs : PA X (e :: es) (tEs X.K c W fs)) (hst : (e :: es).all notStar = true) :
    PE X (.Call (.Name x p) (e :: es) [] pos) (tF X.K c W fun Γ => (fs Γ).bind fun xs => Bi.run .list xs) := by
  rw [List.all_cons] at hst
  have hst' := Bool.and_eq_true_iff.mp hst
  refine PE.imp (pe_callTy (callR_list (τ := c.T X.K)) hg hm hv hs (okN_ok hx).2.2 (okN_ok hx).1 (starEach_of hst'.1) (star_any hst'.2)) fun σ H Q h => ?_
  exact (tes_oneF h).mono fun xs H1 ⟨Γ, pa, B, b, as, o, r, h⟩ => ⟨pa, B, b, as, _, o.rm, r, h⟩
/-! ### isinstance with a built-in type -/
def tyN : Ty → String
  | .str => "str"
  | .int => "int"
  | .bool => "bool"
  | .tuple => "tuple"
  | .list => "list"
def tBool : Ty → Bool
  | .int => true
  | .bool => true
  | _ => false
def tInt : Ty → Bool
  | .int => true
  | _ => false
def tStr : Ty → Bool
  | .str => true
  | _ => false
def tTup : Ty → Bool
  | .tuple => true
  | _ => false
def tLst : Ty → Bool
  | .list => true
  | _ => false
theorem tyN_boot (T : Ty) : bootBuiltins (tyN T : Str) = some (.type (tyN T)) := by
  cases T
  · exact PyProof.Rows.boot_str
  · exact PyProof.Rows.boot_int
  · exact PyProof.Rows.boot_bool
  · exact PyProof.Rows.boot_tuple
  · exact PyProof.Rows.boot_list
theorem tyIs_ok {τ : Tbs} {pa : Pa τ} {B : Addr → Prop} {H : Hp} {K : PySem.W.Frag} {T : Ty} {x : V} {a : D} {b : Nat} {P : Nat → Bool → Prop} {E : Nat → Nat → Prop} (r : Rep pa B H x a) (h : (tyIs T a).wp b P E) :
    ∃ t r, TyX K H x (.type t) ∧ kitB t (tyN T) = some r ∧ P b r := by
  cases r with
  | non => exact ⟨"NoneType", false, .base .non, by cases T <;> decide +kernel, by cases T <;> exact h⟩
  | bl c => exact ⟨"bool", tBool T, .base (.bl _), by cases T <;> decide +kernel, by cases T <;> exact h⟩
  | int i => exact ⟨"int", tInt T, .base (.int _), by cases T <;> decide +kernel, by cases T <;> exact h⟩
  | str z _ _ => exact ⟨"str", tStr T, .base (.str _), by cases T <;> decide +kernel, by cases T <;> exact h⟩
  | tup e l r => exact ⟨"tuple", tTup T, .base (.tup e), by cases T <;> decide +kernel, by cases T <;> exact h⟩
  | lst n e l r => exact ⟨"list", tLst T, .base (.lst e), by cases T <;> decide +kernel, by cases T <;> exact h⟩
  | dct n e l r => exact ⟨"dict", false, (by
      rcases e with e | ⟨o, e⟩
      · exact .base (.dK e)
      · exact .fDict e), by cases T <;> decide +kernel, by cases T <;> exact h⟩
  | pen => cases T <;> exact h.elim
  | exc _ _ _ => cases T <;> exact h.elim
theorem pe_isi' {T : Ty} {x : Str} {p p2 : Pos} (hx : x = "isinstance") (hg : Gl X x) (hm : X.mg x = none) (hg2 : Gl X (tyN T)) (hm2 : X.mg (tyN T) = none) (ha : PE X a (tE X.K c W fa)) (hn : notStar a = true) :
    PE X (.Call (.Name x p) [a, .Name (tyN T) p2] [] pos) (tE X.K c W fun Γ => (fa Γ).bind fun x => (tyIs T x).bind fun b => .ok (.bl b)) := by
  subst hx
  have e2 : ((tyN T : Str) == ("__debug__" : Str)) = false := by cases T <;> decide +kernel
  have e3 : (tyN T : Str) ≠ "__name__" := by cases T <;> decide +kernel
  refine PE.imp (pe_callB call_isi hg hm boot_isi (pa_cons ha (pa_cons (pe_bltn (v := .ty (tyN T)) hg2 hm2 (tyN_boot T) rfl e3 e2) pa_nil (starEach_of rfl)) (starEach_of hn)) (by decide) (by decide) (starEach_of hn) (star_any rfl)) fun σ H Q h => ?_
  refine (te_one h).mono fun v H1 ⟨Γ, pa, B, b, d, o, r, h⟩ => ?_
  obtain ⟨t, r', h1, h2, h3⟩ := tyIs_ok (K := X.K) r ((Tr.wp_bind _ _).mp h)
  exact ⟨v, .ty (tyN T), .type t, .type (tyN T), r', rfl, .ty _, h1, kit_ty h2, Po.here h3 o.rm (.bl _)⟩
/-! ### subscripts -/
theorem pe_ix' (g : Gd X c sc cl k W) (ha : PE X a (tE X.K c W fa)) (hb : PE X e (tE X.K c W fb)) (hs : notSlice e = true) : PE X (.Subscript a e pos) (tE X.K c W fun Γ => (fa Γ).bind fun x => (fb Γ).bind fun y => opIx x y) := by
  refine PE.imp (pe_ix (ixR (τ := c.T X.K) g.hu1) ha hb (plainIx_of hs)) fun σ H Q h => ?_
  exact (te_two h).mono fun v H1 h => h.mono fun v2 H2 ⟨Γ, pa, B, b, a, d, o, r1, r2, h⟩ => ⟨pa, B, b, a, d, _, o.rm, r1, r2, h⟩
/-- a part of a slice -/
def tO (K : PySem.W.Frag) (c : Cfg) (W : WX) (f : Option (Ga → Tr D)) : TO := match f with
  | none => tNoPart
  | some f => tPart (tE K c W f)
theorem pe_sl0' {p2 : Pos} (ha : PE X a (tE X.K c W fa)) : PE X (.Subscript a (.Slice none none none p2) pos) (tE X.K c W fun Γ => (fa Γ).bind fun x => opSl none none x) := by
  refine PE.imp (pe_slice (slR (τ := c.T X.K)) ha po_none po_none) fun σ H Q h => ?_
  exact (te_one h).mono fun v H1 ⟨Γ, pa, B, b, a, o, r, h⟩ => ⟨pa, B, b, a, _, o.rm, r, h⟩
theorem partI {τ : Tbs} {pa : Pa τ} {B : Addr → Prop} {H : Hp} {b : Nat} {x : V} {a : D} {P : Nat → Option Int → Prop} {E : Nat → Nat → Prop} (r : Rep pa B H x a) (h : (opPart a).wp b P E) : ∃ i, x = .int i ∧ P b (some i) := by
  cases r with
  | int i => exact ⟨i, rfl, h⟩
  | _ => exact h.elim
theorem pe_slT' {p2 : Pos} (ha : PE X a (tE X.K c W fa)) (hb : PE X e (tE X.K c W fb)) : PE X (.Subscript a (.Slice none (some e) none p2) pos) (tE X.K c W fun Γ => (fa Γ).bind fun x => (fb Γ).bind fun y => (opPart y).bind fun j => opSl none j x) := by
  refine PE.imp (pe_slice (slR (τ := c.T X.K)) ha po_none (po_some hb)) fun σ H Q h => ?_
  refine (te_two h).mono fun v H1 h => h.mono fun v2 H2 ⟨Γ, pa, B, b, a, d, o, r1, r2, h⟩ => ?_
  obtain ⟨i, e1, h2⟩ := partI r2 ((Tr.wp_bind _ _).mp h)
  exact ⟨i, e1, pa, B, b, a, _, o.rm, r1, h2⟩
theorem pe_slF' {p2 : Pos} (ha : PE X a (tE X.K c W fa)) (hb : PE X e (tE X.K c W fb)) : PE X (.Subscript a (.Slice (some e) none none p2) pos) (tE X.K c W fun Γ => (fa Γ).bind fun x => (fb Γ).bind fun y => (opPart y).bind fun i => opSl i none x) := by
  refine PE.imp (pe_slice (slR (τ := c.T X.K)) ha (po_some hb) po_none) fun σ H Q h => ?_
  refine (te_two h).mono fun v H1 h => h.mono fun v2 H2 ⟨Γ, pa, B, b, a, d, o, r1, r2, h⟩ => ?_
  obtain ⟨i, e1, h2⟩ := partI r2 ((Tr.wp_bind _ _).mp h)
  exact ⟨i, e1, pa, B, b, a, _, o.rm, r1, h2⟩
theorem pe_slB' {z : Expr} {p2 : Pos} (ha : PE X a (tE X.K c W fa)) (hb : PE X e (tE X.K c W fb)) (hz : PE X z (tE X.K c W fc)) : PE X (.Subscript a (.Slice (some e) (some z) none p2) pos)
    (tE X.K c W fun Γ => (fa Γ).bind fun x => (fb Γ).bind fun y => (opPart y).bind fun i => (fc Γ).bind fun z => (opPart z).bind fun j => opSl i j x) := by
  refine PE.imp (pe_slice (slR (τ := c.T X.K)) ha (po_some hb) (po_some hz)) fun σ H Q h => ?_
  obtain ⟨Γ, pa, B, b, o, h⟩ := h
  refine ⟨Γ, pa, B, b, o, Tr.wp_mono (fun b1 d1 h2 v H1 x kk r => ?_) (fun _ _ z => z) _ _ ((Tr.wp_bind _ _).mp h)⟩
  have ok1 := o.ex x kk
  refine ⟨Γ, pa, B, b1, ok1, Tr.wp_mono (fun b2 d2 h3 v2 H2 x2 k2 r2 => ?_) (fun _ _ z => Er.ex z x) _ _ ((Tr.wp_bind _ _).mp h2)⟩
  have ok2 := ok1.ex x2 k2
  obtain ⟨i, e1, h4⟩ := partI r2 ((Tr.wp_bind _ _).mp h3)
  refine ⟨i, e1, Γ, pa, B, b2, ok2, Tr.wp_mono (fun b3 d3 h5 v3 H3 x3 k3 r3 => ?_) (fun _ _ z => Er.ex z (x.trans x2)) _ _ ((Tr.wp_bind _ _).mp h4)⟩
  obtain ⟨j, e3, h6⟩ := partI r3 ((Tr.wp_bind _ _).mp h5)
  exact ⟨j, e3, pa, B, b3, d1, _, (ok2.ex x3 k3).rm, (r.ex x2 ok1.rm).ex x3 ok2.rm, Tr.wp_mono (fun _ _ z => Po.ex ((x.trans x2).trans x3) z) (fun _ _ z => z) _ _ h6⟩
/-! ### the module's tables -/
theorem asS {τ : Tbs} {pa : Pa τ} {B : Addr → Prop} {H : Hp} {b : Nat} {x : V} {a : D} {P : Nat → S → Prop} {E : Nat → Nat → Prop} (r : Rep pa B H x a) (h : (asStr a).wp b P E) : ∃ z : S, x = .str ⟨z.toArray⟩ ∧ a = .str z ∧ P b z := by
  cases r with
  | str z _ _ => exact ⟨z, rfl, rfl, h⟩
  | _ => exact h.elim
theorem tb_get {t : Nat} {x : Str} {tb : List (S × S)} (h : c.tabs[t]? = some (x, tb)) : c.tb.getD t [] = tb := by
  unfold Cfg.tb
  rw [List.getD_eq_getElem?_getD, List.getElem?_map, h]
  rfl
theorem pe_getTab' (F : Fc X.prog X.w X.K X.mg X.base c cl k) {t : Nat} {x : Str} {tb : List (S × S)} {p : Pos} (ht : c.tabs[t]? = some (x, tb)) (hg : Gl X x) (hx : okN x = true) (ha : PE X a (tE X.K c W fa)) (hs : notSlice a = true) :
    PE X (.Subscript (.Name x p) a pos) (tE X.K c W fun Γ => (fa Γ).bind fun x => (asStr x).bind fun k => match lookT (c.tb.getD t []) k with
    | some v => .ok (.str v)
    | none => .stuck) := by
  obtain ⟨ad, es, n, h1, h2, h3, h4, h5, h6⟩ := F.tabs t x tb ht
  rw [tb_get ht]
  refine PE.imp (pe_ix ix_kdict (pe_glob (v := .ref ad) hg h1 rfl (okN_ok hx).1) ha (plainIx_of hs)) fun σ H Q h => ?_
  refine (te_one h).mono fun v H1 ⟨Γ, pa, B, b, d, o, r, h⟩ => ?_
  obtain ⟨z, e1, e2, h7⟩ := asS r ((Tr.wp_bind _ _).mp h)
  subst e1
  cases e : lookT tb z with
  | none =>
    rw [e] at h7
    exact h7.elim
  | some y =>
    rw [e] at h7
    obtain ⟨⟨u, h8, h9⟩, h10, h11⟩ := h5 z y e
    exact ⟨ad, _, .str ⟨y.toArray⟩, rfl, rfl, ⟨es, n, u, h2, h3, h8, h9⟩, Po.here h7 o.rm (.str _ h10 h11)⟩
/-- x in TABLE -/
def rInT (K : PySem.W.Frag) (w : World) (neg : Bool) : R2 := fun x y H Q => ∃ (z : Str) (a : Addr) (es : Array DictEntry) (n : Nat) (r : Option Value), x = .str z ∧ y = .ref a ∧ K.lookup a = some ⟨.type "dict", none, .dict es n, #[]⟩ ∧ PySem.W.KeysLit w.params es.toList ∧ (a == sysModules) = false ∧
  PySem.W.nsIn K a z = some r ∧ Q (.bl (xor neg r.isSome)) H
theorem op_inT : OpR X (compareOp .In) (rInT X.K X.w false) := by
  intro pins s σ H x y v u Q I rx ry h
  obtain ⟨z, a, es, n, r, rfl, rfl, h1, h2, h3, h4, h⟩ := h
  cases ry
  obtain ⟨t, rfl⟩ := rx
  refine wpAny_in_of (strKind_is X.prog X.w z t) h3 (PySem.W.mapOf_K (prog := X.prog) (w := X.w) I.kIn h1 h2) ?_
  rw [PySem.W.find_K h1 h4]
  exact ⟨.bl _, H, I.tok _, rfl, by simpa using h⟩
theorem op_notinT : OpR X (compareOp .NotIn) (rInT X.K X.w true) := by
  intro pins s σ H x y v u Q I rx ry h
  obtain ⟨z, a, es, n, r, rfl, rfl, h1, h2, h3, h4, h⟩ := h
  cases ry
  obtain ⟨t, rfl⟩ := rx
  refine wpAny_notIn_of (strKind_is X.prog X.w z t) h3 (PySem.W.mapOf_K (prog := X.prog) (w := X.w) I.kIn h1 h2) ?_
  rw [PySem.W.find_K h1 h4]
  exact ⟨.bl _, H, I.tok _, rfl, by simpa using h⟩
theorem pe_inTab' (F : Fc X.prog X.w X.K X.mg X.base c cl k) {neg : Bool} {t : Nat} {x : Str} {tb : List (S × S)} {p : Pos} (ht : c.tabs[t]? = some (x, tb)) (hg : Gl X x) (hx : okN x = true) (ha : PE X a (tE X.K c W fa)) (op : CmpOp) (ho : op = match neg with | true => CmpOp.NotIn | false => CmpOp.In) :
    PE X (.Compare a [op] [.Name x p] pos) (tE X.K c W fun Γ => (fa Γ).bind fun x => (asStr x).bind fun k => .ok (.bl (xor neg (lookT (c.tb.getD t []) k).isSome))) := by
  obtain ⟨ad, es, n, h1, h2, h3, h4, h5, h6⟩ := F.tabs t x tb ht
  rw [tb_get ht]
  subst ho
  have go : ∀ {σ : L2.St} {H : Hp} {Q : VK}, tE X.K c W (fun Γ => (fa Γ).bind fun x => (asStr x).bind fun k => .ok (.bl (xor neg (lookT tb k).isSome))) σ H Q → tE X.K c W fa σ H fun v H1 => rInT X.K X.w neg v (.ref ad) H1 Q := by
    intro σ H Q h
    refine (te_one h).mono fun v H1 ⟨Γ, pa, B, b, d, o, r, h⟩ => ?_
    obtain ⟨z, e1, e2, h7⟩ := asS r ((Tr.wp_bind _ _).mp h)
    cases e : lookT tb z with
    | none =>
      rw [e] at h7
      exact ⟨_, ad, es, n, none, e1, rfl, h2, h3, h4, h6 z e, Po.here h7 o.rm (.bl _)⟩
    | some y =>
      rw [e] at h7
      obtain ⟨⟨u, h8, h9⟩, h10, h11⟩ := h5 z y e
      exact ⟨_, ad, es, n, some u, e1, rfl, h2, h3, h4, h8, Po.here h7 o.rm (.bl _)⟩
  cases neg with
  | false => exact PE.imp (pe_cmpR op_inT ha (pe_glob (v := .ref ad) hg h1 rfl (okN_ok hx).1) (marks_of rfl)) fun σ H Q h => go h
  | true => exact PE.imp (pe_cmpR op_notinT ha (pe_glob (v := .ref ad) hg h1 rfl (okN_ok hx).1) (marks_of rfl)) fun σ H Q h => go h
end
end Mi
end
section
set_option linter.all false
set_option maxRecDepth 100000
set_option Elab.async false
set_option maxHeartbeats 1000000
/-! What is walked. -/
namespace Mi
open PySem PySem.Spec PyProof.Rows L2
theorem enum_get : ∀ (l : List D) (k i : Nat), (enumL k l)[i]? = l[i]?.map fun d => .tup [.int ((k + i : Nat) : Int), d]
  | [], k, i => by simp [enumL]
  | d :: r, k, 0 => by simp [enumL]
  | d :: r, k, i + 1 => by
    have := enum_get r (k + 1) i
    simp only [enumL, List.getElem?_cons_succ]
    rw [this]
    congr 1
    funext d
    congr 3
    omega
theorem enum_len : ∀ (l : List D) (k : Nat), (enumL k l).length = l.length
  | [], _ => rfl
  | _ :: r, k => congrArg Nat.succ (enum_len r (k + 1))
theorem RepL.getV {τ : Tbs} {pa : Pa τ} {B : Addr → Prop} {H : Hp} {vs : List V} {ds : List D} {i : Nat} {v : V} (r : RepL pa B H vs ds) (h : vs[i]? = some v) : ∃ d, ds[i]? = some d ∧ Rep pa B H v d := by
  have hl : i < ds.length := by
    rw [← r.length]
    obtain ⟨z, _⟩ := List.getElem?_eq_some_iff.mp h
    exact z
  obtain ⟨v', h1, h2⟩ := r.get (List.getElem?_eq_getElem hl)
  rw [h] at h1
  cases h1
  exact ⟨_, List.getElem?_eq_getElem hl, h2⟩
section
variable {τ : Tbs} {pa : Pa τ} {K : PySem.W.Frag} {a : Addr} {vs : List V} {ds : List D}
def gL {τ : Tbs} (pa : Pa τ) (a : Addr) (vs : List V) (ds : List D) (B : Addr → Prop) (H : Hp) : Prop := ¬ B a ∧ H a = some (.lst vs) ∧ RepL pa B H vs ds
def gT {τ : Tbs} (pa : Pa τ) (a : Addr) (vs : List V) (ds : List D) (B : Addr → Prop) (H : Hp) : Prop := H a = some (.tup vs) ∧ RepL pa B H vs ds
theorem gL.stays {B B' : Addr → Prop} {H H' : Hp} (g : gL pa a vs ds B H) (k : Keeps B B' H H') : gL pa a vs ds B' H' :=
  ⟨k.out a g.1 (not_nw g.2.1 (by intro ps w; cases w)), k.lst a vs g.1 g.2.1, g.2.2.keeps k⟩
theorem gT.stays {B B' : Addr → Prop} {H H' : Hp} (g : gT pa a vs ds B H) (k : Keeps B B' H H') : gT pa a vs ds B' H' := ⟨k.tup a vs g.1, g.2.keeps k⟩
theorem wk_lst (hl : vs.length = ds.length) : Wk pa (Itl K a) (gL pa a vs ds) (YAt vs) ds where
  walk := fun B => by
    rw [← hl]
    exact walk_list.mono (fun H g => SqL.of g.2.1) fun _ _ _ _ _ _ y => y
  gives := fun B i H x H' b hi g rm y => by
    obtain ⟨rfl, hx⟩ := y
    obtain ⟨d, h1, h2⟩ := g.2.2.getV hx
    exact ⟨Ex.refl, rm.hk, d, h1, h2⟩
  stays := fun _ _ _ _ g k => g.stays k
theorem wk_tup (hl : vs.length = ds.length) : Wk pa (Itt K a) (gT pa a vs ds) (YAt vs) ds where
  walk := fun B => by
    rw [← hl]
    exact walk_tup.mono (fun H g => SqT.of g.1) fun _ _ _ _ _ _ y => y
  gives := fun B i H x H' b hi g rm y => by
    obtain ⟨rfl, hx⟩ := y
    obtain ⟨d, h1, h2⟩ := g.2.getV hx
    exact ⟨Ex.refl, rm.hk, d, h1, h2⟩
  stays := fun _ _ _ _ g k => g.stays k
theorem wk_str {x : S} (hx : x.all (fun c => decide (c < 0x110000)) = true) : Wk pa (Its ⟨x.toArray⟩) (fun _ _ => True) (fun i H v H' => H' = H ∧ ∃ c, x[i]? = some c ∧ v = .str ⟨#[c]⟩) (x.map fun c => .str [c]) where
  walk := fun B => by
    have w := walk_str (z := ⟨x.toArray⟩)
    have e : (⟨x.toArray⟩ : Str).cps.size = (x.map fun c => D.str [c]).length := by simp
    rw [e] at w
    exact w.mono (fun _ h => h) fun i H v H' _ _ ⟨h1, c, h2, h3⟩ => ⟨h1, c, by simpa using h2, h3⟩
  gives := fun B i H v H' b hi g rm y => by
    obtain ⟨rfl, c, h1, rfl⟩ := y
    refine ⟨Ex.refl, rm.hk, .str [c], by rw [List.getElem?_map, h1]; rfl, ?_⟩
    refine .str [c] (by show 1 ≤ line; decide) ?_
    have := List.all_eq_true.mp hx c (List.mem_of_getElem? h1)
    show (decide (c < 0x110000) && true) = true
    rw [Bool.and_true]
    exact this
  stays := fun _ _ _ _ g _ => g
theorem wk_rng {lo hi : Int} : Wk pa (Itr lo (hi - lo).toNat) (fun _ _ => True) (YFn fun i => .int (lo + i)) (rngL lo hi) where
  walk := fun B => by
    have e : (rngL lo hi).length = (hi - lo).toNat := by simp [rngL]
    rw [e]
    exact walk_range
  gives := fun B i H x H' b hi' g rm y => by
    obtain ⟨rfl, rfl⟩ := y
    refine ⟨Ex.refl, rm.hk, .int (lo + (i : Int)), ?_, .int _⟩
    have hl : i < (hi - lo).toNat := by simpa [rngL] using hi'
    simp [rngL, hl]
  stays := fun _ _ _ _ g _ => g
theorem wk_enum (hl : vs.length = ds.length) : Wk pa (Ite K a) (gL pa a vs ds) (YPair (fun i => some (.int (i : Nat))) (fun i => vs[i]?)) (enumL 0 ds) where
  walk := fun B => by
    rw [enum_len, ← hl]
    exact walk_enum.mono (fun H g => SqL.of g.2.1) fun _ _ _ _ _ _ y => y
  gives := fun B i H x H' b hi g rm y => by
    obtain ⟨T, x1, x2, rfl, hT, rfl, h1, h2⟩ := y
    cases h1
    obtain ⟨d, h3, h4⟩ := g.2.2.getV h2
    refine ⟨Ex.new hT, rm.hk.new hT, .tup [.int ((0 + i : Nat) : Int), d], by rw [enum_get, h3]; rfl, ?_⟩
    have e0 : ((0 + i : Nat) : Int) = (i : Int) := by omega
    rw [e0]
    exact .tup upd_same (by show 2 ≤ line; decide) ((RepL.cons (.int _) (.cons h4 .nil)).ex (Ex.new hT) rm)
  stays := fun _ _ _ _ g k => g.stays k
end
section
variable {X : Cx} {c : Cfg} {sc : Scope} {cl : Cl} {k : Nat} {W : WX} {pos : Pos} {a e tg : Expr} {fa fb fc : Ga → Tr D}
def iAny (K : PySem.W.Frag) (te : TE) : TI := fun σ H R => te σ H fun x H1 => (∃ a, x = .ref a ∧ (∃ xs, SqL K H1 a xs) ∧ R (Itl K a) H1) ∨ (∃ a, x = .ref a ∧ (∃ xs, SqT K H1 a xs) ∧ R (Itt K a) H1) ∨ (∃ z, x = .str z ∧ R (Its z) H1)
theorem pi_any {te : TE} (he : PE X e te) : PI X tg e (iAny X.K te) := by
  refine ⟨fun pins s σ H R I h => ?_⟩
  refine thn (he.run pins s σ H _ I h) fun v s1 ⟨x, H1, I1, r1, q1⟩ => ?_
  rcases q1 with ⟨a, e, ⟨xs, hq⟩, q⟩ | ⟨a, e, ⟨xs, hq⟩, q⟩ | ⟨z, e, q⟩
  · subst e
    cases r1
    obtain ⟨its, rv, p, hz⟩ := I1.list hq
    refine wpAny_pyIter_list p.isList ?_
    refine ⟨s1.heap.objs.size, [s1.heap.objs.size], _, _, H1, rfl, I1.kept (t' := s1.toks) fun b o e => Heap.get?_push_of_some _ e, turn_list a _, ⟨_, Heap.get?_push_size _ rfl, rfl, rfl⟩, fun b hb => ?_, q⟩
    have e : b = s1.heap.objs.size := by simpa using hb
    subst e
    exact I1.fpOk (Nat.le_refl _) (I1.hok.fresh (Nat.le_refl _))
  · subst e
    cases r1
    obtain ⟨its, rv, p, hz⟩ := I1.tuple hq
    refine wpAny_pyIter_tuple (show s1.heap.IsTuple a its.toArray from p) ?_
    refine ⟨s1.heap.objs.size, [s1.heap.objs.size], _, _, H1, rfl, I1.kept (t' := s1.toks) fun b o e => Heap.get?_push_of_some _ e, turn_tuple a _, ⟨_, Heap.get?_push_size _ rfl, rfl, rfl⟩, fun b hb => ?_, q⟩
    have e : b = s1.heap.objs.size := by simpa using hb
    subst e
    exact I1.fpOk (Nat.le_refl _) (I1.hok.fresh (Nat.le_refl _))
  · subst e
    obtain ⟨t, rfl⟩ := r1
    cases ha : z.cps.all (· < 128)
    · exact wpAny_pyIter_wide ha (pi_one (tk := s1.toks) I1 _ (turn_str _ z t "str_iterator" (.inr rfl)) ⟨_, Heap.get?_push_size _ rfl, rfl, rfl⟩ q)
    · exact wpAny_pyIter_ascii ha (pi_one (tk := s1.toks) I1 _ (turn_str _ z t "str_ascii_iterator" (.inl rfl)) ⟨_, Heap.get?_push_size _ rfl, rfl, rfl⟩ q)
theorem items_rep {τ : Tbs} {pa : Pa τ} {B : Addr → Prop} {H : Hp} {K : PySem.W.Frag} {b : Nat} {x : V} {a : D} {R : It → Hp → Prop} {E : Nat → Nat → Prop} (rm : Rm pa B b H) (r : Rep pa B H x a) (h : (items a).wp b (PoW pa B H R) E) :
    (∃ a, x = .ref a ∧ (∃ xs, SqL K H a xs) ∧ R (Itl K a) H) ∨ (∃ a, x = .ref a ∧ (∃ xs, SqT K H a xs) ∧ R (Itt K a) H) ∨ (∃ z, x = .str z ∧ R (Its z) H) := by
  cases r with
  | lst n e l r => exact .inl ⟨_, rfl, ⟨_, SqL.of e⟩, h _ _ _ H Ex.refl rm.hk (wk_lst r.length) ⟨n, e, r⟩⟩
  | tup e l r => exact .inr (.inl ⟨_, rfl, ⟨_, SqT.of e⟩, h _ _ _ H Ex.refl rm.hk (wk_tup r.length) ⟨e, r⟩⟩)
  | str z hz hz2 => exact .inr (.inr ⟨_, rfl, h _ _ _ H Ex.refl rm.hk (wk_str hz2) True.intro⟩)
  | _ => exact h.elim
theorem PoW.ex {τ : Tbs} {pa : Pa τ} {B : Addr → Prop} {H H1 : Hp} {R : It → Hp → Prop} {b : Nat} {ds : List D} (x : Ex pa H H1) (h : PoW pa B H R b ds) : PoW pa B H1 R b ds := fun J G Y H' y k w g => h J G Y H' (x.trans y) k w g
theorem PI.imp {t t' : TI} (h : PI X tg e t) (i : ∀ σ H R, t' σ H R → t σ H R) : PI X tg e t' := ⟨fun pins s σ H R I q => h.run pins s σ H R I (i σ H R q)⟩
theorem pi_it' (ha : PE X a (tE X.K c W fa)) : PI X tg a (tS X.K c W fun Γ => (fa Γ).bind items) := by
  refine PI.imp (pi_any ha) fun σ H R ⟨Γ, pa, B, b, o, h⟩ => ?_
  refine ⟨Γ, pa, B, b, o, Tr.wp_mono (fun b1 d h1 v H1 x kk r => ?_) (fun _ _ z => z) _ _ ((Tr.wp_bind _ _).mp h)⟩
  exact items_rep (o.ex x kk).rm r (Tr.wp_mono (fun _ _ z => PoW.ex x z) (fun _ _ z => z) _ _ h1)
theorem pi_rng1' {p : Pos} (hg : Gl X "range") (hm : X.mg "range" = none) (ha : PE X a (tE X.K c W fa)) (hn : notStar a = true) : PI X tg (.Call (.Name "range" p) [a] [] pos) (tS X.K c W fun Γ => (fa Γ).bind fun x => match x with
    | .int j => if -(2 ^ 62) ≤ j ∧ j < 2 ^ 62 then .ok (rngL 0 j) else .stuck
    | _ => .stuck) := by
  refine PI.imp (pi_range1 hg hm (pa_cons ha pa_nil (starEach_of hn)) (starEach_of hn)) fun σ H R ⟨Γ, pa, B, b, o, h⟩ => ?_
  refine ⟨Γ, pa, B, b, o, Tr.wp_mono (fun b1 d h1 v H1 x kk r => ?_) (fun _ _ z => z) _ _ ((Tr.wp_bind _ _).mp h)⟩
  cases r with
  | int j =>
    simp only at h1
    split at h1
    · rename_i hj
      refine ⟨j, rfl, hj.1, hj.2, ?_⟩
      have := h1 _ _ _ H1 x kk (wk_rng (lo := 0) (hi := j)) True.intro
      simpa using this
    · exact h1.elim
  | _ => exact h1.elim
theorem pi_rng2' {p : Pos} (hg : Gl X "range") (hm : X.mg "range" = none) (ha : PE X a (tE X.K c W fa)) (hb : PE X e (tE X.K c W fb)) (hn : notStar a = true) (hn2 : notStar e = true) : PI X tg (.Call (.Name "range" p) [a, e] [] pos) (tS X.K c W fun Γ => (fa Γ).bind fun x => (fb Γ).bind fun y => match x, y with
    | .int i, .int j => if -(2 ^ 62) ≤ i ∧ i < 2 ^ 62 ∧ -(2 ^ 62) ≤ j ∧ j < 2 ^ 62 then .ok (rngL i j) else .stuck
    | _, _ => .stuck) := by
  refine PI.imp (pi_range2 hg hm (pa_cons ha (pa_cons hb pa_nil (starEach_of hn2)) (starEach_of hn)) (by rw [starEach_of hn, starEach_of hn2]; rfl) (starEach_of hn2)) fun σ H R ⟨Γ, pa, B, b, o, h⟩ => ?_
  refine ⟨Γ, pa, B, b, o, Tr.wp_mono (fun b1 d1 h1 v H1 x kk r => ?_) (fun _ _ z => z) _ _ ((Tr.wp_bind _ _).mp h)⟩
  refine ⟨Γ, pa, B, b1, o.ex x kk, Tr.wp_mono (fun b2 d2 h2 v2 H2 x2 k2 r2 => ?_) (fun _ _ z => Er.ex z x) _ _ ((Tr.wp_bind _ _).mp h1)⟩
  cases r with
  | int i => cases r2 with
    | int j =>
      simp only at h2
      split at h2
      · rename_i hj
        exact ⟨i, j, rfl, hj, h2 _ _ _ H2 (x.trans x2) k2 wk_rng True.intro⟩
      · exact h2.elim
    | _ => exact h2.elim
  | _ => cases r2 <;> exact h2.elim
theorem pi_enum' {elts : List Expr} {kk : Nat} {tpos p : Pos} (hg : Gl X "enumerate") (hm : X.mg "enumerate" = none) (ha : PE X a (tE X.K c W fa)) (hn : notStar a = true) : PI X (.Tuple elts kk tpos) (.Call (.Name "enumerate" p) [a] [] pos) (tS X.K c W fun Γ => (fa Γ).bind fun x => match x with
    | .lst l => .ok (enumL 0 l)
    | _ => .stuck) := by
  refine PI.imp (pi_enum hg hm (pa_cons ha pa_nil (starEach_of hn)) (starEach_of hn)) fun σ H R ⟨Γ, pa, B, b, o, h⟩ => ?_
  refine ⟨Γ, pa, B, b, o, Tr.wp_mono (fun b1 d h1 v H1 x kk r => ?_) (fun _ _ z => z) _ _ ((Tr.wp_bind _ _).mp h)⟩
  cases r with
  | lst n e l r => exact ⟨_, _, rfl, SqL.of e, h1 _ _ _ H1 x kk (wk_enum r.length) ⟨n, e, r⟩⟩
  | _ => exact h1.elim
end
end Mi
end
section
set_option linter.all false
set_option maxRecDepth 100000
set_option Elab.async false
set_option maxHeartbeats 1000000
/-! Targets; list comprehensions. -/
namespace Mi
open PySem PySem.Spec PyProof.Rows L2
def tgIx : Tg → List Nat
  | .nm i => [i]
  | .tp is => is
def gNs : List Nat → TGs
  | [] => gNil
  | i :: r => gCons (gName i) (gNs r)
def gTg (K : PySem.W.Frag) : Tg → TG
  | .nm i => gName i
  | .tp is => fun v σ H Q => gTup K is.length (gNs is) v σ H Q ∨ gUnl K is.length (gNs is) v σ H Q
def lcB (sc : Scope) (x : Str) : Bool := match sc.names.lookup x with
  | some .local => true
  | some .cell => true
  | _ => false
def nmsB (N : List Str) (sc : Scope) : List Nat → List Expr → Bool
  | [], [] => true
  | i :: is, e :: es => (match vName e with
    | some x => decide (N[i]? = some x) && lcB sc x
    | none => false) && nmsB N sc is es
  | _, _ => false
def tgB (N : List Str) (sc : Scope) : Tg → Expr → Bool
  | .nm i, e => (match vName e with
    | some x => decide (N[i]? = some x) && lcB sc x
    | none => false)
  | .tp is, e => (match vTup e with
    | some es => nmsB N sc is es
    | none => false)
/-- a raw scope's own names in X -/
structure Own (X : Cx) (raw : Scope) : Prop where
  lo : ∀ x, raw.names.lookup x = some .local → X.env.scope.names.lookup x = some .local
  ce : ∀ x, raw.names.lookup x = some .cell → X.env.scope.names.lookup x = some .cell ∧ X.fn x = true
section
variable {X : Cx} {raw : Scope}
theorem pg_nm {i : Nat} {x : Str} {p : Pos} (hN : X.N.Nodup) (hi : X.N[i]? = some x) (O : Own X raw) (h : lcB raw x = true) : PG X (.Name x p) (gName i) := by
  unfold lcB at h
  split at h
  · rename_i e
    exact pg_name hN hi (.inl (O.lo x e)) (.inr (O.lo x e))
  · rename_i e
    exact pg_name hN hi (.inr (O.ce x e).1) (.inl (O.ce x e).2)
  · cases h
theorem nms_len {N : List Str} {sc : Scope} : ∀ {is : List Nat} {es : List Expr}, nmsB N sc is es = true → es.length = is.length
  | [], [], _ => rfl
  | i :: is, e :: es, h => congrArg Nat.succ (nms_len (Bool.and_eq_true_iff.mp (show (_ && nmsB N sc is es) = true from h)).2)
  | [], _ :: _, h => by cases h
  | _ :: _, [], h => by cases h
theorem nms_each {N : List Str} {sc : Scope} {env : PySem.Env} : ∀ {is : List Nat} {es : List Expr}, nmsB N sc is es = true → assignEach es env = es.map fun e => (false, assign e env)
  | [], [], _ => rfl
  | i :: is, e :: es, h => by
    have h' := Bool.and_eq_true_iff.mp (show ((match vName e with | some x => _ | none => _) && nmsB N sc is es) = true from h)
    cases hv : vName e with
    | none =>
      rw [hv] at h'
      cases h'.1
    | some x =>
      obtain ⟨p, rfl⟩ := vName_ok hv
      rw [List.map_cons, ← nms_each h'.2]
      rfl
  | [], _ :: _, h => by cases h
  | _ :: _, [], h => by cases h
theorem pgs_nms (hN : X.N.Nodup) (O : Own X raw) : ∀ {is : List Nat} {es : List Expr}, nmsB X.N raw is es = true → PGs X es (gNs is)
  | [], [], _ => pgs_nil
  | i :: is, e :: es, h => by
    have h' := Bool.and_eq_true_iff.mp (show ((match vName e with | some x => decide (X.N[i]? = some x) && lcB raw x | none => false) && nmsB X.N raw is es) = true from h)
    cases hv : vName e with
    | none =>
      rw [hv] at h'
      cases h'.1
    | some x =>
      rw [hv] at h'
      have h2 := Bool.and_eq_true_iff.mp h'.1
      obtain ⟨p, rfl⟩ := vName_ok hv
      refine pgs_cons (pg_nm hN (of_decide_eq_true h2.1) O h2.2) (pgs_nms hN O h'.2) ?_
      rw [nms_each h, nms_each h'.2]
      rfl
  | [], _ :: _, h => by cases h
  | _ :: _, [], h => by cases h
theorem pg_tg {N : List Str} {g : Tg} {e : Expr} (hc : X.calm = true) (hN : X.N.Nodup) (hX : X.N = N) (O : Own X raw) (h : tgB N raw g e = true) : PG X e (gTg X.K g) := by
  subst hX
  cases g with
  | nm i =>
    simp only [tgB] at h
    cases hv : vName e with
    | none =>
      rw [hv] at h
      cases h
    | some x =>
      rw [hv] at h
      have h2 := Bool.and_eq_true_iff.mp h
      obtain ⟨p, rfl⟩ := vName_ok hv
      exact pg_nm hN (of_decide_eq_true h2.1) O h2.2
  | tp is =>
    simp only [tgB] at h
    cases hv : vTup e with
    | none =>
      rw [hv] at h
      cases h
    | some es =>
      rw [hv] at h
      obtain ⟨kk, p, rfl⟩ := vTup_ok hv
      have e1 : (assignEach es X.env).length = is.length := by rw [nms_each h, List.length_map, nms_len h]
      have e2 : (assignEach es X.env).findIdx? (·.1) = none := by
        rw [nms_each h]
        have z : ∀ l : List Expr, List.findIdx? (fun x : Bool × (Value → Sem Unit) => x.1) (l.map fun e => (false, assign e X.env)) = none := by
          intro l
          induction l with
          | nil => rfl
          | cons a l ih => simp [List.findIdx?_cons, ih]
        exact z es
      refine ⟨fun pins s σ H v u Q I r hw => ?_⟩
      rcases hw with hw | hw
      · exact (pg_tup hc (pgs_nms hN O h) e1 e2).run pins s σ H v u Q I r hw
      · exact (pg_unl hc (pgs_nms hN O h) e1 e2).run pins s σ H v u Q I r hw
end
/-! ### what a target does -/
def setAll (σ : L2.St) : List Nat → List V → L2.St
  | i :: is, v :: vs => setAll (σ.set i (some v)) is vs
  | _, _ => σ
theorem gNs_of {Q : L2.St → Hp → Prop} {H : Hp} : ∀ {is : List Nat} {vs : List V} {σ : L2.St}, vs.length = is.length → Q (setAll σ is vs) H → gNs is vs σ H Q
  | [], [], _, _, h => ⟨rfl, h⟩
  | i :: is, v :: vs, σ, hl, h => ⟨v, vs, rfl, gNs_of (is := is) (Nat.succ.inj hl) h⟩
  | [], _ :: _, _, hl, _ => by cases hl
  | _ :: _, [], _, hl, _ => by cases hl
def setsG (Γ : Ga) : List Nat → List D → Ga
  | i :: is, d :: ds => setsG (Γ.set i (some d)) is ds
  | _, _ => Γ
theorem setsG_eq : ∀ (is : List Nat) (ds : List D) (Γ : Ga), (is.zip ds).foldl (fun Γ p => Γ.set p.1 (some p.2)) Γ = setsG Γ is ds
  | [], _, _ => by simp [setsG]
  | _ :: _, [], _ => by simp [setsG]
  | i :: is, d :: ds, Γ => by
    rw [List.zip_cons_cons, List.foldl_cons]
    exact setsG_eq is ds _
theorem wipe_ext {σ τ : L2.St} : ∀ {vs : List Nat}, σ.length = τ.length → (∀ j, j ∉ vs → σ[j]? = τ[j]?) → wipe σ vs = wipe τ vs := by
  intro vs hl h
  apply List.ext_getElem?
  intro j
  have key : ∀ (vs : List Nat) (ρ : L2.St), (wipe ρ vs)[j]? = if j ∈ vs then (if j < ρ.length then some none else none) else ρ[j]? := by
    intro vs
    induction vs with
    | nil => intro ρ; simp [wipe]
    | cons v vs ih =>
      intro ρ
      unfold wipe
      rw [List.getElem?_set]
      by_cases e : v = j
      · subst e
        rw [if_pos rfl, wipe_length]
        simp
      · rw [if_neg e, ih]
        have e' : ¬ j = v := fun z => e z.symm
        simp [e']
  rw [key, key, hl]
  split
  · rfl
  · rename_i hj
    exact h j hj
theorem setAll_len : ∀ {is : List Nat} {vs : List V} {σ : L2.St}, (setAll σ is vs).length = σ.length
  | [], _, _ => by simp [setAll]
  | _ :: _, [], _ => by simp [setAll]
  | i :: is, v :: vs, σ => by
    unfold setAll
    rw [setAll_len, List.length_set]
theorem setAll_out : ∀ {is : List Nat} {vs : List V} {σ : L2.St} {j : Nat}, j ∉ is → (setAll σ is vs)[j]? = σ[j]?
  | [], _, _, _, _ => by simp [setAll]
  | _ :: _, [], _, _, _ => by simp [setAll]
  | i :: is, v :: vs, σ, j, h => by
    unfold setAll
    rw [setAll_out (fun z => h (List.mem_cons_of_mem _ z)), List.getElem?_set_ne (fun z => h (by rw [z]; exact List.mem_cons_self))]
theorem wipe_out {σ : L2.St} {j : Nat} : ∀ {vs : List Nat}, j ∉ vs → (wipe σ vs)[j]? = σ[j]?
  | [], _ => rfl
  | a :: vs, hn => by
    unfold wipe
    rw [List.getElem?_set_ne (fun z => hn (by rw [z]; exact List.mem_cons_self)), wipe_out (fun z => hn (List.mem_cons_of_mem _ z))]
/-- slots and data, but for some -/
structure OkP (p : List Nat) {τ : Tbs} (pa : Pa τ) (B : Addr → Prop) (H : Hp) (σ : L2.St) (Γ : Ga) : Prop where
  len : Γ.length ≤ σ.length
  slots : ∀ (i : Nat) (d : D), i ∉ p → Γ[i]? = some (some d) → ∃ v, σ[i]? = some (some v) ∧ Rep pa B H v d
theorem OkP.set {p : List Nat} {τ : Tbs} {pa : Pa τ} {B : Addr → Prop} {H : Hp} {σ : L2.St} {Γ : Ga} {i : Nat} {v : V} {d : D} (o : OkP (i :: p) pa B H σ Γ) (r : Rep pa B H v d) : OkP p pa B H (σ.set i (some v)) (Γ.set i (some d)) := by
  refine ⟨by rw [List.length_set, List.length_set]; exact o.len, fun j e hj hg => ?_⟩
  by_cases hij : i = j
  · subst hij
    have hl : i < Γ.length := by
      obtain ⟨z, _⟩ := List.getElem?_eq_some_iff.mp hg
      simpa using z
    rw [List.getElem?_set_self hl] at hg
    cases hg
    exact ⟨v, List.getElem?_set_self (Nat.lt_of_lt_of_le hl o.len), r⟩
  · rw [List.getElem?_set_ne hij] at hg
    obtain ⟨u, h1, h2⟩ := o.slots j e (by
      intro z
      rcases List.mem_cons.mp z with z | z
      · exact hij z.symm
      · exact hj z) hg
    exact ⟨u, by rw [List.getElem?_set_ne hij]; exact h1, h2⟩
theorem OkP.sets {τ : Tbs} {pa : Pa τ} {B : Addr → Prop} {H : Hp} : ∀ {is : List Nat} {σ : L2.St} {Γ : Ga} {vs : List V} {ds : List D}, OkP is pa B H σ Γ → RepL pa B H vs ds → ds.length = is.length → OkP [] pa B H (setAll σ is vs) (setsG Γ is ds)
  | [], σ, Γ, vs, ds, o, r, hl => by
    cases r with
    | nil => simpa [setAll, setsG] using o
    | cons _ _ => cases hl
  | i :: is, σ, Γ, vs, ds, o, r, hl => by
    cases r with
    | nil => cases hl
    | cons r t => exact OkP.sets (is := is) (OkP.set o r) t (Nat.succ.inj hl)
/-- a target binds as the evaluator says -/
theorem tg_binds {K : PySem.W.Frag} {τ : Tbs} {pa : Pa τ} {B : Addr → Prop} {H : Hp} {σ : L2.St} {Γ Γ1 : Ga} {g : Tg} {v : V} {d : D} {Q : L2.St → Hp → Prop} (o : OkP (tgIx g) pa B H σ Γ) (r : Rep pa B H v d) (h : bindTg d g Γ = some Γ1)
    (hQ : ∀ σ2, OkP [] pa B H σ2 Γ1 → wipe σ2 (tgIx g) = wipe σ (tgIx g) → Q σ2 H) : gTg K g v σ H Q := by
  cases g with
  | nm i =>
    cases h
    refine hQ _ (OkP.set o r) (wipe_ext (by rw [List.length_set]) fun j hj => List.getElem?_set_ne (fun z => hj (by rw [← z]; exact List.mem_cons_self)))
  | tp is =>
    cases d with
    | tup ds =>
      simp only [bindTg] at h
      split at h
      · rename_i hl
        rw [setsG_eq] at h
        cases h
        cases r with
        | tup e hz r =>
          refine .inl ⟨_, _, rfl, SqT.of e, by rw [r.length, hl], gNs_of (by rw [r.length, hl]) ?_⟩
          exact hQ _ (OkP.sets o r hl) (wipe_ext setAll_len fun j hj => setAll_out hj)
      · cases h
    | _ => cases h
/-! ### a block -/
abbrev WF : WX := fun _ _ _ _ => False
section
variable {X : Cx} {c : Cfg} {sc : Scope} {cl : Cl} {k : Nat} {W : WX} {pos : Pos} {elt tg iter : Expr} {fa fb fe : Ga → Tr D} {fs : Ga → Tr (List D)} {scope : Scope} {g : Tg}
theorem Gd.blk (gd : Gd X c sc cl k W) (s : Shared) (H : Hp) (C : Addr) (cv : List (Str × Addr)) (fp : List Addr) : Gd (X.blk s H scope (compEnvC scope cv C X.env) fp) c (relS scope sc) cl k WF :=
  ⟨gd.n, gd.nd, by rw [← gd.sc]; rfl, gd.calm, gd.room, gd.gu, fun u s' ⟨_, _, _, _, _, _, _, _, _, _, _, _, _, _, _, _, w⟩ => w.elim, fun z => ⟨(gd.lam z).at_, (gd.lam z).room⟩⟩
theorem own_blk (s : Shared) (H : Hp) (C : Addr) (cv : List (Str × Addr)) (fp : List Addr) : Own (X.blk s H scope (compEnvC scope cv C X.env) fp) scope where
  lo := fun x h => lookup_relS_keep (sc := X.env.scope) (by decide) h
  ce := fun x h => ⟨lookup_relS_keep (sc := X.env.scope) (by decide) h, by
    show (scope.names.lookup x == some NameKind.cell) = true
    rw [h]
    rfl⟩
def ownOf (N : List Str) (g : Tg) : List (Str × Nat) := (tgIx g).filterMap fun i => N[i]?.map fun x => (x, i)
def blkB (N : List Str) (sc scope : Scope) (g : Tg) : Bool := blkC N sc scope (ownOf N g) && decide ((ownOf N g).map (·.2) = tgIx g)
/-- a comprehension's turns -/
theorem lc_main (gd : Gd X c sc cl k W) {tt : TT} {te : TE} {f : Ga → Tr (Option D)} {σ : L2.St} {H : Hp} {Q : VK}
    (hstep : ∀ (Γ1 : Ga) (pa : Pa (c.T X.K)) (B : Addr → Prop) (b : Nat) (σ2 : L2.St) (H1 : Hp) (R : Nat → Option D → Prop) (E : Nat → Nat → Prop) (Z : V → Hp → Prop) (N : Hp → Prop), Okk pa B b H1 σ2 Γ1 → (f Γ1).wp b R E →
      (∀ b' y d H3, Ex pa H1 H3 → Hk pa b' H3 → Rep pa B H3 y d → R b' (some d) → Z y H3) → (∀ b' H2, Ex pa H1 H2 → Hk pa b' H2 → R b' none → N H2) → tt σ2 H1 fun t H2 => if t = true then te σ2 H2 Z else N H2)
    (h : tF X.K c W (fun Γ => (fs Γ).bind fun xs => if xs.length ≤ line then (mapT (fun d => match bindTg d g Γ with
      | some Γ1 => f Γ1
      | none => .stuck) xs).bind fun ys => .ok (.lst ys) else .stuck) σ H Q) : tLc (tS X.K c W fs) (gTg X.K g) tt te (tgIx g) σ H Q := by
  obtain ⟨Γ, pa, B, b, o, h⟩ := h
  refine ⟨Γ, pa, B, b, o, Tr.wp_mono (fun b1 xs h1 J G Y H1 x kk w gg => ?_) (fun _ _ z => z) _ _ ((Tr.wp_bind _ _).mp h)⟩
  by_cases hz : xs.length ≤ line
  case neg => rw [if_neg hz] at h1; exact h1.elim
  rw [if_pos hz] at h1
  intro D' hD
  have o1 := o.ex x kk
  have kb : Keeps B (fun a => B a ∨ a = D') H1 (upd H1 D' (.lst [])) := Keeps.ban hD
  have x0 : Ex pa H1 (upd H1 D' (.lst [])) := Ex.new hD
  have npD : D' ≠ pa.p := fun z => by
    obtain ⟨l, hl⟩ := o1.rm.hk.at
    rw [← z, hD] at hl
    cases hl
  have ncD : D' ≠ pa.c := fun z => by
    obtain ⟨_, _, _, _, _, hc, _⟩ := o1.rm.hk
    rw [← z, hD] at hc
    cases hc
  have xw : ∀ {H' : Hp} {l : List V}, Ex pa H1 H' → Ex pa H1 (upd H' D' (.lst l)) := fun {H' l} y =>
    ⟨fun a u e n t => by rw [upd_ne (ne_of_none e hD)]; exact y.keep a u e n t, fun a u e ht => by
      obtain ⟨u', e', t'⟩ := y.dom a u e ht
      exact ⟨u', by rw [upd_ne (ne_of_none e hD)]; exact e', t'⟩⟩
  have bd : ∀ {H' : Hp}, Ex pa H1 H' → (∃ l, H' D' = some (.lst l)) → ∀ a, (B a ∨ a = D') → ∃ u, H' a = some u ∧ NT u := fun {H'} y hl a ha => by
    rcases ha with ha | ha
    · obtain ⟨u, e, t⟩ := o1.rm.bd a ha
      exact y.dom a u e t
    · obtain ⟨l, hl⟩ := hl
      exact ⟨_, by rw [ha]; exact hl, by intro ps w; cases w⟩
  refine lc_it (w.walk fun a => B a ∨ a = D') (fun i H' => ∃ b vs ys, Hk pa b H' ∧ Ex pa H1 H' ∧ H' D' = some (.lst vs) ∧ vs.length ≤ i ∧ RepL pa (fun a => B a ∨ a = D') H' vs ys ∧ G (fun a => B a ∨ a = D') H' ∧
      (∀ (j : Nat) (d : D), Γ[j]? = some (some d) → ∃ v, σ[j]? = some (some v) ∧ Rep pa (fun a => B a ∨ a = D') H' v d) ∧ (mapT (fun d => match bindTg d g Γ with
        | some Γ1 => f Γ1
        | none => .stuck) (xs.drop i)).wp b (fun b l => PoF pa B H1 Q b (.lst (ys ++ l))) (Er X.K c W pa σ H)) ?_ ?_ ?_ ?_
  · refine ⟨b1, [], [], kk.new hD, x0, upd_same, Nat.le_refl _, .nil, w.stays _ _ _ _ gg kb, fun j d hj => ?_, ?_⟩
    · obtain ⟨v, e1, e2⟩ := o1.slots j d hj
      exact ⟨v, e1, e2.keeps kb⟩
    · rw [List.drop_zero]
      exact Tr.wp_mono (fun _ _ z => PoF.ex x z) (fun _ _ z => z) _ _ ((Tr.wp_bind _ _).mp h1)
  · rintro i H' _ ⟨_, _, _, _, _, _, _, _, gg', _⟩
    exact gg'
  · rintro i v H' H2 hi ⟨b2, vs, ys, k2, x2, hd2, hl2, r2, gg2, sl2, h2⟩ y
    have rm2 : Rm pa (fun a => B a ∨ a = D') b2 H' := ⟨k2, .inl o1.rm.bp, bd x2 ⟨_, hd2⟩⟩
    obtain ⟨x3, k3, d, hd, rv⟩ := w.gives _ i H' v H2 b2 hi gg2 rm2 y
    have rm3 := rm2.ex x3 k3
    have gg3 := w.stays _ _ _ _ gg2 (x3.keeps k2 rm2.bp)
    have hdrop : xs.drop i = d :: xs.drop (i + 1) := by
      have e := List.drop_eq_getElem_cons hi
      rw [List.getElem?_eq_getElem hi] at hd
      cases hd
      exact e
    rw [hdrop] at h2
    have h3 := (Tr.wp_bind _ _).mp h2
    have hd3 : H2 D' = some (.lst vs) := x3.keep D' _ hd2 npD (by intro ps z; cases z)
    cases hb : bindTg d g Γ with
    | none =>
      simp only [hb] at h3
      exact h3.elim
    | some Γ1 =>
      simp only [hb] at h3
      have op : OkP (tgIx g) pa (fun a => B a ∨ a = D') H2 (wipe σ (tgIx g)) Γ := ⟨by rw [wipe_length]; exact o.len, fun j e hj hg => by
        obtain ⟨u, h4, h5⟩ := sl2 j e hg
        refine ⟨u, ?_, h5.keeps (x3.keeps k2 rm2.bp)⟩
        have : (wipe σ (tgIx g))[j]? = σ[j]? := by
          exact wipe_out hj
        rw [this]
        exact h4⟩
      refine tg_binds op rv hb fun σ2 op2 hw => ⟨by rw [hw]; exact wipe_ext (by rw [wipe_length]) fun j hj => wipe_out hj, ?_⟩
      have ok2 : Okk pa (fun a => B a ∨ a = D') b2 H2 σ2 Γ1 := ⟨⟨k3, rm3.bp, rm3.bd⟩, op2.len, fun j e hj => op2.slots j e (by simp) hj⟩
      refine hstep Γ1 pa (fun a => B a ∨ a = D') b2 σ2 H2 _ _ _ _ ok2 h3 (fun b3 yv dy H3 x4 k4 ry hq => ?_) (fun b3 H3 x4 k4 hq => ?_)
      · have hd4 : H3 D' = some (.lst vs) := x4.keep D' (.lst vs) hd3 npD (by intro ps z; cases z)
        have x34 := x3.trans x4
        have kw : Keeps (fun a => B a ∨ a = D') (fun a => B a ∨ a = D') H3 (upd H3 D' (.lst (vs ++ [yv]))) := Keeps.write (.inr rfl) hd4 (by intro ts z; cases z) (by intro phi z; cases z)
        have k24 : Keeps (fun a => B a ∨ a = D') (fun a => B a ∨ a = D') H' H3 := x34.keeps k2 rm2.bp
        refine ⟨vs, hd4, by rw [line_eq]; omega, b3, vs ++ [yv], ys ++ [dy], k4.put npD ncD (put_lst hd4), xw (x2.trans x34), upd_same, by rw [List.length_append]; show vs.length + 1 ≤ i + 1; omega, ((r2.keeps k24).append (.cons ry .nil)).keeps kw, w.stays _ (fun a => B a ∨ a = D') _ _ (w.stays _ (fun a => B a ∨ a = D') _ _ gg2 k24) kw, fun j e hj => ?_, ?_⟩
        · obtain ⟨u, h4, h5⟩ := sl2 j e hj
          exact ⟨u, h4, (h5.keeps k24).keeps kw⟩
        · refine Tr.wp_mono (fun b4 l z => ?_) (fun _ _ z => z) _ _ ((Tr.wp_bind _ _).mp hq)
          rw [List.append_assoc]
          exact z
      · have hd4 : H3 D' = some (.lst vs) := x4.keep D' (.lst vs) hd3 npD (by intro ps z; cases z)
        have k24 : Keeps (fun a => B a ∨ a = D') (fun a => B a ∨ a = D') H' H3 := (x3.trans x4).keeps k2 rm2.bp
        refine ⟨b3, vs, ys, k4, x2.trans (x3.trans x4), hd4, by omega, r2.keeps k24, w.stays _ _ _ _ gg2 k24, fun j e hj => ?_, ?_⟩
        · obtain ⟨u, h4, h5⟩ := sl2 j e hj
          exact ⟨u, h4, h5.keeps k24⟩
        · exact Tr.wp_mono (fun b4 l z => z) (fun _ _ z => z) _ _ ((Tr.wp_bind _ _).mp hq)
  · rintro H' ⟨b2, vs, ys, k2, x2, hd2, hl2, r2, gg2, sl2, h2⟩
    rw [List.drop_length] at h2
    have h3 : PoF pa B H1 Q b2 (.lst (ys ++ [])) := h2
    rw [List.append_nil] at h3
    refine h3 _ _ x2 k2 (.lst (o1.rm.nb hD) hd2 (Nat.le_trans hl2 hz) (r2.keeps (Keeps.less fun a ha => .inl ha))) ⟨D', rfl, Nw.of hD, NF.lst hd2⟩
theorem Er.no {K : PySem.W.Frag} {pa : Pa (c.T K)} {σ : L2.St} {H : Hp} {α : Type} {t : Tr α} {b : Nat} {P : Nat → α → Prop} (h : t.wp b P (fun _ _ => False)) : t.wp b P (Er K c WF pa σ H) := Tr.wp_mono (fun _ _ z => z) (fun _ _ z => z.elim) _ _ h
theorem truth_no {d : D} {b : Nat} {P : Nat → Bool → Prop} {E E' : Nat → Nat → Prop} (h : (truth d).wp b P E) : (truth d).wp b P E' := by cases d <;> exact h
theorem lc_imp (gd : Gd X c sc cl k W) {σ : L2.St} {H : Hp} {Q : VK} (h : tF X.K c W (fun Γ => (fs Γ).bind fun xs => if xs.length ≤ line then (mapT (fun d => match bindTg d g Γ with
      | some Γ1 => (fe Γ1).noErr.bind fun x => .ok (some x)
      | none => .stuck) xs).bind fun ys => .ok (.lst ys) else .stuck) σ H Q) : tLc (tS X.K c W fs) (gTg X.K g) tYes (tE X.K c WF fe) (tgIx g) σ H Q := by
  refine lc_main gd (f := fun Γ1 => (fe Γ1).noErr.bind fun x => .ok (some x)) (fun Γ1 pa B b σ2 H1 R E Z N o hf h1 h2 => ?_) h
  show (if true = true then tE X.K c WF fe σ2 H1 Z else N H1)
  rw [if_pos rfl]
  refine ⟨Γ1, pa, B, b, o, Er.no (Tr.wp_mono (fun b1 d h3 v H3 x kk r => h1 b1 v d H3 x kk r h3) (fun _ _ z => z) _ _ ((Tr.wp_noErr _ _).mp ((Tr.wp_bind _ _).mp hf)))⟩
theorem lcIf_imp {fc : Ga → Tr D} (gd : Gd X c sc cl k W) {σ : L2.St} {H : Hp} {Q : VK} (h : tF X.K c W (fun Γ => (fs Γ).bind fun xs => if xs.length ≤ line then (mapT (fun d => match bindTg d g Γ with
      | some Γ1 => (fc Γ1).noErr.bind fun t => (truth t).bind fun k => match k with
        | true => (fe Γ1).noErr.bind fun x => .ok (some x)
        | false => .ok none
      | none => .stuck) xs).bind fun ys => .ok (.lst ys) else .stuck) σ H Q) : tLc (tS X.K c W fs) (gTg X.K g) (tT X.K c WF fun Γ => (fc Γ).bind truth) (tE X.K c WF fe) (tgIx g) σ H Q := by
  refine lc_main gd (f := fun Γ1 => (fc Γ1).noErr.bind fun t => (truth t).bind fun k => match k with
        | true => (fe Γ1).noErr.bind fun x => .ok (some x)
        | false => .ok none) (fun Γ1 pa B b σ2 H1 R E Z N o hf h1 h2 => ?_) h
  have hf1 := (Tr.wp_noErr _ _).mp ((Tr.wp_bind _ _).mp hf)
  refine ⟨Γ1, pa, B, b, o, (Tr.wp_bind _ _).mpr (Er.no (Tr.wp_mono (fun b1 d h3 => truth_no (Tr.wp_mono (fun b2 kk h4 H3 x k3 => ?_) (fun _ _ z => z) _ _ ((Tr.wp_bind _ _).mp h3))) (fun _ _ z => z) _ _ hf1))⟩
  have o3 := o.ex x k3
  cases kk with
  | true =>
    refine iteT ?_
    refine ⟨Γ1, pa, B, b2, o3, Er.no (Tr.wp_mono (fun b3 d h5 v H4 x4 k4 r4 => h1 b3 v d H4 (x.trans x4) k4 r4 h5) (fun _ _ z => z) _ _ ((Tr.wp_noErr _ _).mp ((Tr.wp_bind _ _).mp h4)))⟩
  | false =>
    refine iteF ?_
    exact h2 b2 H3 x k3 h4
theorem pe_lc' (gd : Gd X c sc cl k W) (hi : PI X tg iter (tS X.K c W fs)) (hg : tgB c.N scope g tg = true) (ok : blkB c.N sc scope g = true) (hs : notSet iter = true)
    (he : ∀ (s : Shared) (H : Hp) (C : Addr) (cv : List (Str × Addr)) (fp : List Addr), PE (X.blk s H scope (compEnvC scope cv C X.env) fp) elt (tE X.K c WF fe)) :
    PE X (.ListComp elt [⟨tg, iter, [], 0⟩] scope pos) (tF X.K c W fun Γ => (fs Γ).bind fun xs => if xs.length ≤ line then (mapT (fun d => match bindTg d g Γ with
      | some Γ1 => (fe Γ1).noErr.bind fun x => .ok (some x)
      | none => .stuck) xs).bind fun ys => .ok (.lst ys) else .stuck) := by
  have ok' := Bool.and_eq_true_iff.mp ok
  have hb : BlkOk X.N X.env.scope scope (ownOf c.N g) := by
    rw [gd.n, gd.sc]
    exact blkOk_by ok'.1
  refine PE.imp (pe_lc (g := gTg X.K g) gd.calm (by rw [gd.n]; exact gd.nd) hi hb (fun s H C cv fp => pg_tg (X := X.blk s H scope (compEnvC scope cv C X.env) fp) (N := c.N) gd.calm (by show X.N.Nodup; rw [gd.n]; exact gd.nd) gd.n (own_blk s H C cv fp) hg) (fun _ _ _ _ _ => pts_nil) he (folded_of hs)) fun σ H Q h => ?_
  rw [of_decide_eq_true ok'.2]
  exact lc_imp gd h
theorem pe_lcIf' {ct : Expr} {fc : Ga → Tr D} (gd : Gd X c sc cl k W) (hi : PI X tg iter (tS X.K c W fs)) (hg : tgB c.N scope g tg = true) (ok : blkB c.N sc scope g = true) (hs : notSet iter = true)
    (ht : ∀ (s : Shared) (H : Hp) (C : Addr) (cv : List (Str × Addr)) (fp : List Addr), PT (X.blk s H scope (compEnvC scope cv C X.env) fp) ct (tT X.K c WF fun Γ => (fc Γ).bind truth))
    (he : ∀ (s : Shared) (H : Hp) (C : Addr) (cv : List (Str × Addr)) (fp : List Addr), PE (X.blk s H scope (compEnvC scope cv C X.env) fp) elt (tE X.K c WF fe)) :
    PE X (.ListComp elt [⟨tg, iter, [ct], 0⟩] scope pos) (tF X.K c W fun Γ => (fs Γ).bind fun xs => if xs.length ≤ line then (mapT (fun d => match bindTg d g Γ with
      | some Γ1 => (fc Γ1).noErr.bind fun t => (truth t).bind fun k => match k with
        | true => (fe Γ1).noErr.bind fun x => .ok (some x)
        | false => .ok none
      | none => .stuck) xs).bind fun ys => .ok (.lst ys) else .stuck) := by
  have ok' := Bool.and_eq_true_iff.mp ok
  have hb : BlkOk X.N X.env.scope scope (ownOf c.N g) := by
    rw [gd.n, gd.sc]
    exact blkOk_by ok'.1
  refine PE.imp (pe_lc (g := gTg X.K g) gd.calm (by rw [gd.n]; exact gd.nd) hi hb (fun s H C cv fp => pg_tg (X := X.blk s H scope (compEnvC scope cv C X.env) fp) (N := c.N) gd.calm (by show X.N.Nodup; rw [gd.n]; exact gd.nd) gd.n (own_blk s H C cv fp) hg) (fun s H C cv fp => pts_one (ht s H C cv fp)) he (folded_of hs)) fun σ H Q h => ?_
  rw [of_decide_eq_true ok'.2]
  exact lcIf_imp gd h
end
end Mi
end
section
set_option linter.all false
set_option maxRecDepth 100000
set_option Elab.async false
set_option maxHeartbeats 1000000
/-! Reversed, joined, cases of letters; dict comprehensions. -/
namespace Mi
open PySem PySem.Spec PyProof.Rows L2
open PySem.Builtin.Str (strSliceIndices)
theorem strs_rep {τ : Tbs} {pa : Pa τ} {B : Addr → Prop} {H : Hp} : ∀ {vs : List V} {ds : List D} {l : List S}, RepL pa B H vs ds → strL ds = some l → vs = (l.map fun x => (⟨x.toArray⟩ : Str)).map V.str ∧ (∀ x ∈ l, x.length ≤ line ∧ x.all (fun c => decide (c < 0x110000)) = true)
  | _, _, _, .nil, h => by
    cases h
    exact ⟨rfl, fun x hx => by cases hx⟩
  | _, _, l, .cons r t, h => by
    cases r with
    | str x hx hx2 =>
      simp only [strL] at h
      obtain ⟨l', hl, e⟩ := Option.map_eq_some_iff.mp h
      obtain ⟨e1, e2⟩ := strs_rep t hl
      subst e
      refine ⟨by rw [e1]; rfl, fun y hy => ?_⟩
      rcases List.mem_cons.mp hy with hy | hy
      · subst hy
        exact ⟨hx, hx2⟩
      · exact e2 y hy
    | _ => cases h
theorem joinS_len (sep : S) : ∀ l : List S, (joinS sep l).length ≤ (l.map List.length).sum + l.length * sep.length
  | [] => Nat.zero_le _
  | [x] => by simp [joinS]
  | x :: y :: r => by
    have := joinS_len sep (y :: r)
    simp only [joinS, List.length_append, List.map_cons, List.sum_cons, List.length_cons] at this ⊢
    rw [Nat.succ_mul]
    omega
theorem joinS_all (sep : S) (p : Nat → Bool) (hs : sep.all p = true) : ∀ l : List S, (∀ x ∈ l, x.all p = true) → (joinS sep l).all p = true
  | [], _ => rfl
  | [x], h => h x List.mem_cons_self
  | x :: y :: r, h => by
    simp only [joinS, List.all_append, Bool.and_eq_true]
    exact ⟨⟨h x List.mem_cons_self, hs⟩, joinS_all sep p hs (y :: r) fun z hz => h z (List.mem_cons_of_mem _ hz)⟩
theorem joinS_L (sep : S) : ∀ l : List S, TL.joinL sep l = joinS sep l
  | [] => rfl
  | [x] => rfl
  | x :: y :: r => by
    simp only [joinS, TL.joinL]
    rw [joinS_L sep (y :: r), List.append_assoc]
section
variable {X : Cx} {c : Cfg} {sc : Scope} {cl : Cl} {k : Nat} {W : WX} {pos : Pos} {a e : Expr} {fa fb fc : Ga → Tr D} {fs : Ga → Tr (List D)}
theorem pe_join' {apos : Pos} (ha : PE X a (tE X.K c W fa)) (hb : PE X e (tE X.K c W fb)) (hn : notStar e = true) (hbare : notBare a = true) (hl : (apos.endLine == pos.line) = true) :
    PE X (.Call (.Attribute a "join" apos) [e] [] pos) (tE X.K c W fun Γ => (fa Γ).bind fun x => (asStr x).bind fun z => (fb Γ).bind fun y => opJoin z y) := by
  refine PE.imp (pe_join ha hb (starEach_of hn) (attrBase_of hbare) hl) fun σ H Q h => ?_
  obtain ⟨Γ, pa, B, b, o, h⟩ := h
  refine ⟨Γ, pa, B, b, o, Tr.wp_mono (fun b1 d1 h2 v H1 x kk r => ?_) (fun _ _ z => z) _ _ ((Tr.wp_bind _ _).mp h)⟩
  have o1 := o.ex x kk
  cases r with
  | str z hz1 hz2 =>
    refine ⟨⟨_, rfl⟩, Γ, pa, B, b1, o1, Tr.wp_mono (fun b2 d2 h3 v2 H2 x2 k2 r2 => ?_) (fun _ _ z => Er.ex z x) _ _ ((Tr.wp_bind _ _).mp h2)⟩
    cases r2 with
    | lst n e l r2 =>
      simp only [opJoin] at h3
      split at h3
      · rename_i l' hl'
        split at h3
        · rename_i hlen
          obtain ⟨e2, e3⟩ := strs_rep r2 hl'
          subst e2
          refine ⟨_, _, l'.map fun x => (⟨x.toArray⟩ : Str), rfl, rfl, .inl (SqL.of e), ?_, ?_⟩
          · rw [List.map_map, List.length_map, str_len]
            have e4 : (List.map ((fun x : Str => x.length) ∘ fun x : S => (⟨x.toArray⟩ : Str)) l') = l'.map List.length := List.map_congr_left fun x _ => str_len
            rw [e4]
            exact hlen
          · have e5 : Txt.join ⟨z.toArray⟩ (l'.map fun x => (⟨x.toArray⟩ : Str)) = ⟨(joinS z l').toArray⟩ := by
              rw [← joinS_L]
              exact SX.join_S z l'
            rw [e5]
            exact h3 _ _ (x.trans x2) k2 (.str _ (Nat.le_trans (joinS_len z l') hlen) (joinS_all z _ hz2 l' fun y hy => (e3 y hy).2))
        · exact h3.elim
      · exact h3.elim
    | _ => exact h3.elim
  | _ => exact h2.elim
theorem lower_ok : ∀ c < 128, Txt.lower ⟨#[c]⟩ = ⟨#[lowC c]⟩ := by decide +kernel
theorem upper_ok : ∀ c < 128, Txt.upper ⟨#[c]⟩ = ⟨#[upC c]⟩ := by decide +kernel
theorem low_lt : ∀ c < 128, lowC c < 0x110000 := by decide +kernel
theorem up_lt : ∀ c < 128, upC c < 0x110000 := by decide +kernel
theorem pe_low' {apos : Pos} (ha : PE X a (tE X.K c W fa)) (hbare : notBare a = true) (hl : (apos.endLine == pos.line) = true) (up : Bool) (m : Str) (hm : m = match up with | true => "upper" | false => "lower") :
    PE X (.Call (.Attribute a m apos) [] [] pos) (tE X.K c W fun Γ => (fa Γ).bind fun x => (asStr x).bind fun z => opCase up z) := by
  subst hm
  have go : ∀ {σ : L2.St} {H : Hp} {Q : VK}, tE X.K c W (fun Γ => (fa Γ).bind fun x => (asStr x).bind fun z => opCase up z) σ H Q → tE X.K c W fa σ H fun v H1 => (∃ a, v = .str a) ∧ ∃ a, v = .str a ∧ ([] : List V) = [] ∧ a.length ≤ 5592405 ∧ Q (.str (match up with | true => Txt.upper a | false => Txt.lower a)) H1 := by
    intro σ H Q h
    refine (te_one h).mono fun v H1 ⟨Γ, pa, B, b, d, o, r, h⟩ => ?_
    obtain ⟨z, e1, e2, h2⟩ := asS r ((Tr.wp_bind _ _).mp h)
    subst e1
    refine ⟨⟨_, rfl⟩, _, rfl, rfl, ?_, ?_⟩
    · unfold opCase at h2
      split at h2
      · rw [str_len]
        show 1 ≤ 5592405
        decide
      · exact h2.elim
    · unfold opCase at h2
      split at h2
      · next c0 h2 =>
        split at h2
        · rename_i hc
          cases up with
          | true =>
            show Q (.str (Txt.upper ⟨#[c0]⟩)) H1
            rw [upper_ok c0 hc]
            refine Po.here h2 o.rm (.str [upC c0] (by show 1 ≤ line; decide) ?_)
            simp [up_lt c0 hc]
          | false =>
            show Q (.str (Txt.lower ⟨#[c0]⟩)) H1
            rw [lower_ok c0 hc]
            refine Po.here h2 o.rm (.str [lowC c0] (by show 1 ≤ line; decide) ?_)
            simp [low_lt c0 hc]
        · exact h2.elim
      · exact h2.elim
  cases up with
  | true => exact PE.imp (pe_upper ha (attrBase_of hbare) hl) fun σ H Q h => go h
  | false => exact PE.imp (pe_lower ha (attrBase_of hbare) hl) fun σ H Q h => go h
/-! ### reversed -/
theorem revS_pick (z : S) : ((PySem.slicePicked ⟨z.toArray⟩ none none (some (-1, 0))).filterMap ((⟨z.toArray⟩ : Str).cps[·]?)).toArray = z.reverse.toArray := by
  show ((strSliceIndices none none (-1) (⟨z.toArray⟩ : Str).length).filterMap (z.toArray[·]?)).toArray = _
  have e1 : strSliceIndices none none (-1) (⟨z.toArray⟩ : Str).length = sliceRange (((⟨z.toArray⟩ : Str).length : Int) - 1) (-1) (-1) := rfl
  have e2 : (⟨z.toArray⟩ : Str).length = z.toArray.size := rfl
  rw [e1, e2, PySem.W.krv_sliceRange, PySem.W.krv_range, List.filterMap_reverse, PySem.W.krv_all]
def tRevA (K : PySem.W.Frag) (te : TE) : TE := fun σ H Q => te σ H fun x H1 => (∃ a xs, x = .ref a ∧ SqL K H1 a xs ∧ ∀ p, H1 p = none → Q (.ref p) (upd H1 p (.lst xs.reverse))) ∨ ∃ z : S, x = .str ⟨z.toArray⟩ ∧ z.length ≤ line ∧ Q (.str ⟨z.reverse.toArray⟩) H1
theorem pe_revA {te : TE} {j : Nat} {p1 p2 p3 : Pos} (he : PE X e te) : PE X (.Subscript e (.Slice none none (some (.UnaryOp .USub (.Constant (.int 1) j p1) p2)) p3) pos) (tRevA X.K te) := by
  refine ⟨fun pins s σ H Q I h => ?_⟩
  refine Subscript_ (thn (he.run pins s σ H _ I h) fun v s1 ⟨x, H1, I1, r1, q1⟩ => ?_)
  have hst : PO X (some (.UnaryOp .USub (.Constant (.int 1) j p1) p2)) (tPart (tUn (rU fun i => .int (-i)) (tC (.int 1)))) := po_some (pe_un un_neg pe_int)
  refine wpAny_Slice (thn (po_none.run pins s1 σ H1 (fun o H2 => o = none ∧ H2 = H1) I1 ⟨rfl, rfl⟩) fun vl s2 ⟨l, H2, I2, pl, el, e2⟩ => ?_)
  subst el e2
  refine thn (po_none.run pins s2 σ H2 (fun o H3 => o = none ∧ H3 = H2) I2 ⟨rfl, rfl⟩) fun vu s3 ⟨u, H3, I3, pu, eu, e3⟩ => ?_
  subst eu e3
  refine thn (hst.run pins s3 σ H3 (fun o H4 => o = some (-1) ∧ H4 = H3) I3 ⟨1, rfl, -1, rfl, rfl, rfl⟩) fun vs s4 ⟨o, H4, I4, ps, eo, e4⟩ => ?_
  subst eo e4
  have I5 : Inv X pins σ H4 { s4 with heap := s4.heap.push { cls := .type "slice", data := .fields #[vl, vu, vs] } } := I4.kept (t' := s4.toks) fun b ob q => Heap.get?_push_of_some _ q
  rcases q1 with ⟨a, xs, ex, hx, q⟩ | ⟨z, ex, hz, q⟩
  · subst ex
    cases r1
    obtain ⟨its, r, ht, hz⟩ := I5.list hx
    have hlen := r.length
    show wpAny (model X.prog X.w) X.A (subscriptTail e (.Slice none none (some (.UnaryOp .USub (.Constant (.int 1) j p1) p2)) p3) (.ref a) (.ref s4.heap.objs.size)) (EP X pins σ Q) X.xe { s4 with heap := s4.heap.push { cls := .type "slice", data := .fields #[vl, vu, vs] } }
    refine tail_any (ops := [.ref a, .ref s4.heap.objs.size]) ht.isList.typeIs (PySem.slot_list_getitem.lookup) ?_ (by with_unfolding_all rfl)
    refine wpAny_getItem_list_slice ht.isList (Heap.IsSliceOf.new _ vl vu vs) pl pu ps (by decide) ?_ (by rw [List.size_toArray]; omega)
    rw [PySem.W.krv_pick]
    refine ⟨.ref _, _, I5.laid (t' := s4.toks) (o := .lst xs.reverse) (fun b ob q => Heap.get?_push_of_some _ q) (Nat.le_refl _) ?_, rfl, q _ (I5.hok.fresh (Nat.le_refl _))⟩
    exact ⟨by rw [List.length_reverse]; exact hz, _, 0, r.reverse, Heap.get?_push_size _ rfl⟩
  · subst ex
    obtain ⟨t, rfl⟩ := r1
    obtain ⟨l, rfl, el⟩ := IsPart.raw pl
    obtain ⟨u, rfl, eu⟩ := IsPart.raw pu
    obtain ⟨st, rfl, est⟩ := IsPart.raw ps
    cases l with
    | some q => cases el
    | none =>
    cases u with
    | some q => cases eu
    | none =>
    cases st with
    | none => cases est
    | some q =>
    obtain ⟨i, ti⟩ := q
    cases est
    show wpAny (model X.prog X.w) X.A (subscriptTail e (.Slice none none (some (.UnaryOp .USub (.Constant (.int 1) j p1) p2)) p3) (.str ⟨z.toArray⟩ t) (.ref s4.heap.objs.size)) (EP X pins σ Q) X.xe _
    refine tail_any (ops := [.ref s4.heap.objs.size, .str ⟨z.toArray⟩ t]) (typeIs_str _ _ _) F.slot_str_getitem.lookup ?_ (by with_unfolding_all rfl)
    refine wpAny_getItem_str_slice (l := none) (u := none) (st := some (-1, ti)) ⟨_, Heap.get?_push_size _ rfl, rfl, rfl⟩ rfl ?_
    have e3 := revS_pick z
    show Made.post (.str ⟨((PySem.slicePicked ⟨z.toArray⟩ none none (some (-1, 0))).filterMap ((⟨z.toArray⟩ : Str).cps[·]?)).toArray⟩) (EP X pins σ Q) _
    rw [e3]
    exact ⟨by rw [str_len, List.length_reverse, line_eq]; exact hz, .str _, H4, I5.tok _, ⟨_, rfl⟩, q⟩
theorem pe_rev' {j : Nat} {p1 p2 p3 : Pos} (ha : PE X a (tE X.K c W fa)) : PE X (.Subscript a (.Slice none none (some (.UnaryOp .USub (.Constant (.int 1) j p1) p2)) p3) pos) (tE X.K c W fun Γ => (fa Γ).bind opRev) := by
  refine PE.imp (pe_revA ha) fun σ H Q h => ?_
  refine (te_one h).mono fun v H1 ⟨Γ, pa, B, b, d, o, r, h⟩ => ?_
  cases r with
  | str z hz hz2 => exact .inr ⟨z, rfl, hz, Po.here h o.rm (.str z.reverse (by rw [List.length_reverse]; exact hz) (by rw [List.all_reverse]; exact hz2))⟩
  | lst n e l r => exact .inl ⟨_, _, rfl, SqL.of e, Po.lst h o.rm r.reverse (by rw [List.length_reverse]; exact l)⟩
  | _ => exact h.elim
/-! ### is True, is False -/
theorem pe_isB' {neg v : Bool} {j : Nat} {p : Pos} (ha : PE X a (tE X.K c W fa)) (op : CmpOp) (ho : op = match neg with | true => CmpOp.IsNot | false => CmpOp.Is) :
    PE X (.Compare a [op] [.Constant (.bool v) j p] pos) (tE X.K c W fun Γ => (fa Γ).bind fun x => (asBool x).bind fun k => .ok (.bl (xor neg (k == v)))) := by
  subst ho
  have e1 : ∀ k : Bool, decide (k = v) = (k == v) := fun k => by cases k <;> cases v <;> rfl
  cases neg with
  | false =>
    refine PE.imp (pe_cmpR op_is_bl ha pe_bl (marks_of rfl)) fun σ H Q h => ?_
    refine (te_one h).mono fun x H1 ⟨Γ, pa, B, b, d, o, r, h⟩ => ?_
    obtain ⟨k, e2, e3, h2⟩ := asB r ((Tr.wp_bind _ _).mp h)
    refine ⟨k, v, e2, rfl, ?_⟩
    rw [e1]
    simpa using Po.here h2 o.rm (.bl _)
  | true =>
    refine PE.imp (pe_cmpR op_isnot_bl ha pe_bl (marks_of rfl)) fun σ H Q h => ?_
    refine (te_one h).mono fun x H1 ⟨Γ, pa, B, b, d, o, r, h⟩ => ?_
    obtain ⟨k, e2, e3, h2⟩ := asB r ((Tr.wp_bind _ _).mp h)
    refine ⟨k, v, e2, rfl, ?_⟩
    rw [e1]
    simpa using Po.here h2 o.rm (.bl _)
theorem pe_bad {ast : Expr} : PE X ast (tE X.K c W fun _ => .stuck) := ⟨fun pins s σ H Q I ⟨_, _, _, _, _, h⟩ => h.elim⟩
theorem pt_bad {ast : Expr} : PT X ast (tT X.K c W fun Γ => (Tr.stuck : Tr D).bind truth) := ⟨fun pins s σ H Q I ⟨_, _, _, _, _, h⟩ => h.elim⟩
end
end Mi
end
section
set_option linter.all false
set_option maxRecDepth 100000
set_option Elab.async false
set_option maxHeartbeats 1000000
/-! sorted(places, key=place_key). -/
namespace Mi
open PySem PySem.Spec PyProof.Rows L2
/-- a def that gives (len(x), x) of its one parameter x -/
def keyBody (x : Str) : List Stmt → Bool
  | [.Return (some (.Tuple [.Call (.Name l _) [.Name y _] [] _, .Name z _] _ _)) _] => decide (l = "len") && decide (y = x) && decide (z = x)
  | _ => false
theorem keyBody_ok {x : Str} {body : List Stmt} (h : keyBody x body = true) : ∃ p1 p2 p3 p4 k p5 p6, body = [.Return (some (.Tuple [.Call (.Name "len" p1) [.Name x p2] [] p3, .Name x p4] k p5)) p6] := by
  unfold keyBody at h
  split at h
  · simp only [Bool.and_eq_true, decide_eq_true_eq] at h
    obtain ⟨⟨rfl, rfl⟩, rfl⟩ := h
    exact ⟨_, _, _, _, _, _, _, rfl⟩
  · cases h
def keyScope (x : Str) (sc : Scope) : Bool := (match sc.names.lookup x with
  | some .local => true
  | _ => false) && glB sc "len" && (match sc.kind with
  | .function => true
  | _ => false) && !sc.isCoroutine && !sc.isGenerator && !(x == ("__debug__" : Str))
theorem key_turn {P : Program} {w : World} {K : PySem.W.Frag} {mg : Str → Option Value} {base : Heap} {f : Addr} {name qual : Str} {params : Arguments} {body : List Stmt} {scope : Scope} {dV kV doc pm cdv ct oc : Value} {an od : Option Addr}
    {osl : Array (Option Value)} {x : Str} (lk : K.lookup f = some ⟨oc, od, .func (PySem.W.fnOf name qual params body scope dV kV doc pm an cdv ct), osl⟩) (hcd : PySem.W.codeIn K cdv qual = true) (hb : Binds K (PySem.W.fnOf name qual params body scope dV kV doc pm an cdv ct) [x] [])
    (h1 : keyBody x body = true) (h2 : keyScope x scope = true) (hm : mg "len" = none) : KeyTurn P w K mg base f := by
  intro A s z t hdep hmod bs hz
  obtain ⟨p1, p2, p3, p4, kk, p5, p6, rfl⟩ := keyBody_ok h1
  simp only [keyScope, Bool.and_eq_true, Bool.not_eq_true'] at h2
  obtain ⟨⟨⟨⟨⟨h3, h4⟩, h5⟩, h6⟩, h7⟩, h8⟩ := h2
  have hloc : scope.names.lookup x = some .local := by
    split at h3
    · assumption
    · cases h3
  have hk : scope.kind = .function := by
    split at h5
    · assumption
    · cases h5
  have KX : K.In s.heap := hmod.kin.keeps bs
  have lim : s.heap.NoLimit := hmod.nolimit.keeps bs
  have hbd := hb s [.str z t] KX rfl
  refine wpAny_call (codeAny_call_function hdep (KX _ _ lk) rfl h6 h7 rfl (PySem.W.codeRec_of KX hcd) (hbd _ _ _ _ ?_))
  refine wpAny_newFunctionEnv_cells hk (fun y hy => ?_) fun env he s1 xx => ?_
  · have e : y = (x, Value.str z t) := by simpa using hy
    subst e
    exact .inl hloc
  have hlim := lim.keeps xx.toInCall.keep
  have hkd : env.scope.kind = .function := by rw [he]; exact hk
  have hkx : env.kindOf x = some .local := by rw [he]; exact hloc
  have hgl : env.scope.names.lookup ("len" : Str) = some .globalImplicit := by rw [he]; exact glB_ok h4
  have hgg : env.globals = mainGlobals := by rw [he]; rfl
  have hbb : env.builtins = builtinsNs := by rw [he]; rfl
  refine ⟨hlim, codeAny_func ?_⟩
  generalize hE : (fun (e : Value) (s' : Shared) => wpAny (model P w) (A.deeper env) (leaving env e) (fun _ s'' => (match (.error e : Result) with | .ok (.ret v) => PySem.W.KeyPure (.tuple [.int z.length, .str z]) s v s'' | .ok _ => False | .error e => (fun _ _ => False) e s'')) (fun e' s'' => (match (.error e' : Result) with | .ok (.ret v) => PySem.W.KeyPure (.tuple [.int z.length, .str z]) s v s'' | .ok _ => False | .error e => (fun _ _ => False) e s'')) s') = E0
  have hL : ∀ {s' : Shared} {Q : Value → Shared → Prop} {p : Pos}, InCallC s env.locals (bindL env.kindOf [(x, Value.str z t)] fun _ => none) env.cells (bindC env.kindOf [(x, Value.str z t)] fun _ => none) s' → Q (.str z t) s' →
      wpAny (model P w) (A.deeper env) (eval (.Name x p) env) Q E0 s' := by
    intro s' Q p xx hq
    refine NameLC xx hkd hkx ?_ hq h8
    show (if env.kindOf x = some NameKind.local then (fun y => if y = x then some (Value.str z t) else (fun _ => none) y) else (fun _ => none)) x = some (Value.str z t)
    rw [if_pos hkx]
    exact if_pos rfl
  refine wpAny_execs_cons (wpAny_Return_some (Tuple_ ?_))
  refine PyProof.Rows.args_cons ?_ rfl
  obtain ⟨mb, hb1, hb2⟩ := hmod.blt
  have kp := xx.toInCall.keep
  refine Call_ (Calls.Name_function_global hkd hgl (Calls.loadGlobal_builtin (by rw [hgg]; exact hmod.glob.keeps fun b o e => kp b o (bs b o e)) hm (by rw [hbb]; exact hb1.keeps fun b o e => kp b o (bs b o e)) ((hb2 "len" (by decide)).trans boot_len) ?_) (by decide))
  refine PyProof.Rows.callWith_builtin1 (PyProof.Rows.args_cons (hL xx (PyProof.Rows.args_nil ?_)) rfl) rfl rfl
  have hn := line63
  refine len_str (by omega) ?_
  refine PyProof.Rows.args_cons (hL ((xx.tok _).tok _) (PyProof.Rows.args_nil ?_)) rfl
  refine wpAny_newTuple ?_ (by show 2 ≤ sizeLine; decide)
  obtain ⟨h', tk, e, k2⟩ := xx.done
  subst e
  refine ⟨_, _, rfl, fun b o hb => Heap.get?_push_of_some _ (k2 b o hb), ?_⟩
  exact Reads.tuple (Heap.get?_push_size _ rfl) rfl rfl (.cons (.int _ _) (.cons (.str _ _) .nil))
end Mi
end
section
set_option linter.all false
set_option maxRecDepth 100000
set_option Elab.async false
set_option maxHeartbeats 1000000
/-! sorted(places, key=place_key): the rule. -/
namespace Mi
open PySem PySem.Spec PyProof.Rows L2
open PySem.W (dataLe dataLt EachIs AllAlike Sortable KeepsBut KeyPure alike alikeAll)
def keyD (x : S) : PyData := .tuple [.int x.length, .str ⟨x.toArray⟩]
theorem keyD_le : dataLe false keyD = leP := by
  funext p q
  show (!dataLt (keyD q) (keyD p)) = leP p q
  unfold keyD
  rw [PySem.W.dataLt_pair (by simp [alike]) (by simp [alike]), PySem.W.dataLt_int, PySem.W.dataLt_str]
  simp only [PyData.eqv]
  unfold leP
  by_cases h1 : (q.length : Int) = (p.length : Int)
  · have h2 : p.length = q.length := by omega
    have h3 : ¬ p.length < q.length := by omega
    by_cases h4 : q = p
    · subst h4
      simp
    · have h5 : ((⟨q.toArray⟩ : Str) == ⟨p.toArray⟩) = false := by rw [str_beq]; simpa using h4
      simp [h1, h5, h2]
  · have h2 : ¬ p.length = q.length := by omega
    have e1 : ((q.length : Int) == (p.length : Int)) = false := by simpa using h1
    by_cases h3 : p.length < q.length
    · have : ¬ q.length < p.length := by omega
      simp [e1, h2, h3, this]
    · have : q.length < p.length := by omega
      simp [e1, h2, h3, this]
/-- texts as values -/
def rS (v : Value) (x : S) : Prop := ∃ t, v = .str ⟨x.toArray⟩ t
theorem each_vals : ∀ {vs : List Value} {l : List S}, EachIs rS vs l → Vals (l.map fun x => V.str ⟨x.toArray⟩) vs
  | _, _, .nil => .nil
  | _, _, .cons ⟨t, e⟩ r => .cons ⟨t, e⟩ (each_vals r)
theorem vals_each : ∀ {vs : List Value} {l : List S}, Vals (l.map fun x => V.str ⟨x.toArray⟩) vs → EachIs rS vs l
  | _, [], .nil => .nil
  | _, x :: l, .cons r t => .cons r (vals_each t)
/-- what is sorted by the key: a list, a tuple, a dict's keys -/
def rSk (K : PySem.W.Frag) (f : Addr) : List V → List V → Hp → VK → Prop := fun vs zs H Q => ∃ (a : Addr) (l : List S), vs = [V.ref a] ∧ zs = [V.ref f] ∧ l.length ≤ sizeLine ∧ (∀ x ∈ l, x.length ≤ sizeLine) ∧
  (SqL K H a (l.map fun x => V.str ⟨x.toArray⟩) ∨ SqT K H a (l.map fun x => V.str ⟨x.toArray⟩) ∨ ∃ kvs, Rd H a (.dK kvs) ∧ kvs.map (·.1) = l.map fun x => Sum.inr ⟨x.toArray⟩) ∧
  ∀ p, H p = none → Q (.ref p) (upd H p (.lst ((sortP l).map fun x => V.str ⟨x.toArray⟩)))
section
variable {X : Cx}
theorem sort_perm (l : List S) : (sortP l).Perm l := List.mergeSort_perm l leP
/-- from the collected values on -/
theorem sortk_end {f : Addr} {pins : List (Addr × Obj)} {σ : L2.St} {H : Hp} {s s1 : Shared} {l : List S} {vs : List Value} {Q : VK} (hr : X.A.depth < recursionLimit) (hu : X.A.units + 64 < cLine) (T : KeyTurn X.prog X.w X.K X.mg X.base f) (I : Inv X pins σ H s1) (e : EachIs rS vs l)
    (hL : l.length ≤ sizeLine) (hx : ∀ x ∈ l, x.length ≤ sizeLine) (q : ∀ p, H p = none → Q (.ref p) (upd H p (.lst ((sortP l).map fun x => V.str ⟨x.toArray⟩)))) {E : Value → Shared → Prop} :
    wpAny (model X.prog X.w) X.A.in1 (do
      let l ← newList vs
      let _ ← holding [l] (PySem.call (.builtin "list.sort") [l] [(Str.ofString "key", .ref f)])
      ret l : Sem Fin) (fun fin s' => ∃ v, fin = .done (.ret v) ∧ EP X pins σ Q v s') E s1 := by
  have hlen := e.length
  refine wpAny_bind (wpAny_newList ?_ (by rw [hlen]; exact hL))
  have hoL : (s1.heap.push (seqObj "list" vs.toArray 0)).get? s1.heap.objs.size = some (seqObj "list" vs.toArray 0) := Heap.get?_push_size _ rfl
  show wpAny _ _ _ _ _ { s1 with heap := s1.heap.push (seqObj "list" vs.toArray 0) }
  refine wpAny_bind (wpAny_holding (PySem.W.list_sort_key_data (s := { s1 with heap := s1.heap.push (seqObj "list" vs.toArray 0) }) (b := false) (f := .ref f) (R := rS) keyD hoL e (AllAlike.of fun _ _ => by simp [alike, alikeAll, keyD]) (Sortable.tuples fun _ => ⟨_, _, rfl⟩) hL (fun x _ => ?_) (PyProof.Rows.ksk_l1 _ _) (PyProof.Rows.ksk_t1 _ _)
    (fun v x hv hxl h tk kp => ?_) fun out c h' tk kp hD _ eo => ?_))
  · have hd : (keyD x).depth = 1 := by simp [keyD, PyData.depth, PyData.depthAll]
    have h1 : X.A.in1.units = X.A.units + 1 := rfl
    omega
  · obtain ⟨t, rfl⟩ := hv
    have := T X.A.in1.in1 { s1 with heap := h, toks := tk } ⟨x.toArray⟩ t hr I.mod (fun b o hb => kp b o (Nat.ne_of_lt (Heap.lt_size (I.bk b o hb))) (Heap.get?_push_of_some _ (I.bk b o hb))) (by rw [str_len]; exact hx x hxl)
    rw [str_len] at this
    exact this
  · rw [keyD_le] at eo
    have eo : EachIs rS out (sortP l) := eo
    have hl2 : (sortP l).length ≤ sizeLine := by rw [(sort_perm l).length_eq]; exact hL
    refine wpAny_pure ⟨_, rfl, .ref s1.heap.objs.size, upd H s1.heap.objs.size (.lst ((sortP l).map fun x => V.str ⟨x.toArray⟩)), I.laid (t' := tk) (fun b u hb => ?_) (Nat.le_refl _)
      (show ObjOk X.prog X.w _ _ _ (.lst ((sortP l).map fun x => V.str ⟨x.toArray⟩)) from ⟨by rw [List.length_map]; exact hl2, out, c, each_vals eo, hD⟩), rfl, q _ (I.hok.fresh (Nat.le_refl _))⟩
    exact kp b u (Nat.ne_of_lt (Heap.lt_size hb)) (Heap.get?_push_of_some _ hb)
theorem cr_sortk {f : Addr} (hr : X.A.depth < recursionLimit) (hu : X.A.units + 64 < cLine) (hcalm : X.calm = true) (T : KeyTurn X.prog X.w X.K X.mg X.base f) : CallRK X (.builtin "sorted") [Str.ofString "key"] (rSk X.K f) := by
  intro pins s σ H vs zs us ws Q I r rz h
  obtain ⟨a, l, rfl, rfl, hL, hx, hs, q⟩ := h
  obtain rfl := Vals.ref1 r
  obtain ⟨w1, rfl, e1⟩ := vals1 rz
  obtain rfl : w1 = Value.ref f := e1
  refine PyProof.Rows.call_function_entry_kw PyProof.Rows.kind_sorted PyProof.Rows.plain_sorted PyProof.Rows.entry_sorted (PyProof.Rows.ksk_s1 _ _) ?_
  unfold Builtin.«sorted»
  refine wpAny_bind (m := checkCount "sorted" 1 1 _) (wpAny_pure ?_)
  rcases hs with hs | hs | ⟨kvs, hs, hk⟩
  · obtain ⟨its, rv, ⟨o, n, ho, hc, _, hd⟩, hz⟩ := I.list hs
    refine wpAny_bind (wpAny_collect_seq a (.inl rfl) ho hc hd (fun h' k => ?_) (by rw [List.size_toArray, ← rv.length]; exact hz))
    rw [List.toList_toArray]
    exact sortk_end (s := s) hr hu T (I.kept (t' := s.toks) k) (vals_each rv) hL hx q
  · obtain ⟨its, rv, p, hz⟩ := I.tuple hs
    obtain ⟨o, ho, hc, n, hd⟩ := (show s.heap.IsTuple a its.toArray from p)
    refine wpAny_bind (wpAny_collect_seq a (.inr rfl) ho hc hd (fun h' k => ?_) (by rw [List.size_toArray, ← rv.length]; exact hz))
    rw [List.toList_toArray]
    exact sortk_end (s := s) hr hu T (I.kept (t' := s.toks) k) (vals_each rv) hL hx q
  · obtain ⟨z, lo, vs, rel, dd⟩ := dk_rd I.hok hs
    obtain ⟨ep, hat⟩ := dd.dictAt
    have hkeys : vs.map (·.1) = l.map fun x => Sum.inr ⟨x.toArray⟩ := rel.keys.symm.trans hk
    have hl : vs.length = l.length := by
      have e := congrArg List.length hkeys
      rw [List.length_map, List.length_map] at e
      exact e
    refine wpAny_bind (PySem.W.kdu_collect (A := X.A.in1) (PySem.W.kdl_dict (knd := mixKind X.prog X.w) (kvs := vs) (ep := ep) lo) (I.ok.hd hcalm) hat (by rw [hl]; exact hL) fun h' tk acc hkk hacc => ?_)
    have hal : acc.toList.length = l.length := by rw [Array.length_toList, hacc.1, hl]
    have hS : EachIs rS acc.toList l := by
      have go : ∀ {us : List Value} {l : List S}, us.length = l.length → (∀ (j : Nat) (v : Value), us[j]? = some v → ∃ (x : S) (t : Tok), l[j]? = some x ∧ v = Value.str ⟨x.toArray⟩ t) → EachIs rS us l := by
        intro us
        induction us with
        | nil => intro l hl _; cases l with
          | nil => exact .nil
          | cons _ _ => cases hl
        | cons u us ih =>
          intro l hl h
          cases l with
          | nil => cases hl
          | cons x l =>
            obtain ⟨y, t, e1, e2⟩ := h 0 u rfl
            cases e1
            exact .cons ⟨t, e2⟩ (ih (Nat.succ.inj hl) fun j v e => by
              obtain ⟨x, t, a, b⟩ := h (j + 1) v (by simpa using e)
              exact ⟨x, t, by simpa using a, b⟩)
      refine go hal fun j v e => ?_
      obtain ⟨k, x, e1, e2⟩ := hacc.2 j v (by rw [← Array.getElem?_toList]; exact e)
      have e3 : (vs.map (·.1))[j]? = some k := by rw [List.getElem?_map, e1]; all_goals rfl
      rw [hkeys, List.getElem?_map] at e3
      cases e4 : l[j]? with
      | none => rw [e4] at e3; cases e3
      | some y =>
        rw [e4] at e3
        have e5 : Sum.inr ⟨y.toArray⟩ = k := Option.some.inj e3
        subst e5
        obtain ⟨t, ev⟩ := Value.isStrOf_shape (x := ⟨y.toArray⟩) (v := v) e2
        exact ⟨y, t, rfl, ev⟩
    exact sortk_end (s := s) hr hu T (I.kept hkk) hS hL hx q
end
end Mi
namespace Mi
open PySem PySem.Spec PyProof.Rows L2
section
variable {X : Cx} {c : Cfg} {sc : Scope} {cl : Cl} {k : Nat} {W : WX} {pos : Pos} {a e : Expr} {fa fb fc : Ga → Tr D} {fs : Ga → Tr (List D)}
theorem keys_rep {τ : Tbs} {pa : Pa τ} {B : Addr → Prop} {H : Hp} : ∀ {kvs : List (Key × V)} {ds : List (S × D)}, RepK pa B H kvs ds → kvs.map (·.1) = (ds.map (·.1)).map (fun x => Sum.inr ⟨x.toArray⟩) ∧ ∀ x ∈ ds.map (·.1), x.length ≤ line ∧ x.all (fun c => decide (c < 0x110000)) = true
  | _, _, .nil => ⟨rfl, fun x hx => by cases hx⟩
  | _, _, .cons h r t => by
    obtain ⟨e1, e2⟩ := keys_rep t
    refine ⟨by rw [List.map_cons, e1]; rfl, fun y hy => ?_⟩
    rw [List.map_cons] at hy
    rcases List.mem_cons.mp hy with hy | hy
    · subst hy
      exact h
    · exact e2 y hy
theorem rep_strs {τ : Tbs} {pa : Pa τ} {B : Addr → Prop} {H : Hp} : ∀ {l : List S}, (∀ x ∈ l, x.length ≤ line ∧ x.all (fun c => decide (c < 0x110000)) = true) → RepL pa B H (l.map fun x => V.str ⟨x.toArray⟩) (l.map D.str)
  | [], _ => .nil
  | x :: l, h => .cons (.str x (h x List.mem_cons_self).1 (h x List.mem_cons_self).2) (rep_strs fun y hy => h y (List.mem_cons_of_mem _ hy))
theorem pe_sortk' (g : Gd X c sc cl k W) (F : Fc X.prog X.w X.K X.mg X.base c cl k) {p p2 p3 : Pos} (hk : c.key = true) (hg : Gl X "sorted") (hm : X.mg "sorted" = none) (hg2 : Gl X "place_key") (ha : PE X a (tE X.K c W fa)) (hn : notStar a = true) :
    PE X (.Call (.Name "sorted" p) [a] [⟨some "key", .Name "place_key" p2, p3⟩] pos) (tF X.K c W fun Γ => (fa Γ).bind opSortk) := by
  obtain ⟨f, h1, h2⟩ := F.key hk
  have hr : X.A.depth < recursionLimit := by have := g.room.dp; omega
  refine PE.imp (pe_callBK (cr_sortk hr g.hu g.calm h2) hg hm PyProof.Rows.boot_sorted (pa_cons ha pa_nil (starEach_of hn)) (pk_cons (pe_glob (v := .ref f) hg2 h1 rfl) pk_nil) (by decide) (by decide) (by rw [starEach_of hn]; rfl) (by rw [starEach_of hn]; rfl) rfl rfl rfl) fun σ H Q h => ?_
  refine (te_oneF h).mono fun v H1 ⟨Γ, pa, B, b, d, o, r, h⟩ => ?_
  cases r with
  | lst n e l r =>
    simp only [opSortk, placesOf] at h
    split at h
    · rename_i l' hl'
      obtain ⟨e1, e2⟩ := strs_rep r hl'
      rw [List.map_map] at e1
      have hz : l'.length ≤ line := by rw [e1, List.length_map] at l; exact l
      refine ⟨_, l', rfl, rfl, by rw [line_eq]; exact hz, fun x hx => by rw [line_eq]; exact (e2 x hx).1, .inl (SqL.of (by rw [e1] at e; exact e)), ?_⟩
      exact PoF.lst h o.rm (rep_strs fun x hx => e2 x ((sort_perm l').mem_iff.mp hx)) (by rw [List.length_map, (sort_perm l').length_eq]; exact hz)
    · exact h.elim
  | tup e l r =>
    simp only [opSortk, placesOf] at h
    split at h
    · rename_i l' hl'
      obtain ⟨e1, e2⟩ := strs_rep r hl'
      rw [List.map_map] at e1
      have hz : l'.length ≤ line := by rw [e1, List.length_map] at l; exact l
      refine ⟨_, l', rfl, rfl, by rw [line_eq]; exact hz, fun x hx => by rw [line_eq]; exact (e2 x hx).1, .inr (.inl (SqT.of (by rw [e1] at e; exact e))), ?_⟩
      exact PoF.lst h o.rm (rep_strs fun x hx => e2 x ((sort_perm l').mem_iff.mp hx)) (by rw [List.length_map, (sort_perm l').length_eq]; exact hz)
    · exact h.elim
  | @dct _ _ ds n e l r =>
    simp only [opSortk, placesOf] at h
    obtain ⟨e1, e2⟩ := keys_rep r
    have hz : (ds.map (·.1)).length ≤ line := by rw [List.length_map, ← r.length]; exact l
    refine ⟨_, ds.map (·.1), rfl, rfl, by rw [line_eq]; exact hz, fun x hx => by rw [line_eq]; exact (e2 x hx).1, .inr (.inr ⟨_, e, e1⟩), ?_⟩
    exact PoF.lst h o.rm (rep_strs fun x hx => e2 x ((sort_perm _).mem_iff.mp hx)) (by rw [List.length_map, (sort_perm _).length_eq]; exact hz)
  | _ => exact h.elim
end
end Mi
end
section
set_option linter.all false
set_option maxRecDepth 100000
set_option Elab.async false
set_option maxHeartbeats 1000000
/-! zip of two texts, strict: walked. -/
namespace Mi.Z
open PySem PySem.Spec PyProof.Rows L2
section
variable {prog : Program} {w : World} {A : Around} {E : Value → Shared → Prop} {s : Shared}
theorem call_zip {x y : Str} {t u : Tok} {Q : Value → Shared → Prop} (hx : x.cps.all (· < 128) = true) (hy : y.cps.all (· < 128) = true)
    (h : ∀ h', IsZipB h' (s.heap.objs.size + 4) (s.heap.objs.size + 2) (s.heap.objs.size + 3) .none → IsPair h' (s.heap.objs.size + 2) (.ref s.heap.objs.size) (.ref (s.heap.objs.size + 1)) →
      IsPair h' (s.heap.objs.size + 3) .none .none → h'.IsStrIter s.heap.objs.size "str_ascii_iterator" x t 0 → h'.IsStrIter (s.heap.objs.size + 1) "str_ascii_iterator" y u 0 → h'.objs.size = s.heap.objs.size + 5 →
      (∀ c o, s.heap.get? c = some o → h'.get? c = some o) → Q (.ref (s.heap.objs.size + 4)) { s with heap := h' }) :
    wpAny (model prog w) A (PySem.call (.type "zip") [.str x t, .str y u] [(Str.ofString "strict", .bool true)]) Q E s := by
  refine callType_newKw F.called_zip (by decide) (typeCall_zip_s _ _ _) (newCall_zip_s _ _ _) (fun obj => args_object_init_s obj _ _ _) F.entry_zip_new (meets_zip_newB x y t u hx hy) ?_
  have z1 : (zH1 s.heap x t).objs.size = s.heap.objs.size + 1 := Heap.size_push ..
  have z2 : (zH2 s.heap x t y u).objs.size = s.heap.objs.size + 2 := by rw [Heap.size_push, z1]
  have z3 : (zH3 s.heap x t y u).objs.size = s.heap.objs.size + 3 := by rw [Heap.size_push, z2]
  have z4 : (zH4 s.heap x t y u).objs.size = s.heap.objs.size + 4 := by rw [Heap.size_push, z3]
  have z5 : (zH5 s.heap x t y u).objs.size = s.heap.objs.size + 5 := by rw [Heap.size_push, z4]
  have g5 : (zH5 s.heap x t y u).get? (zH4 s.heap x t y u).objs.size = some _ := Heap.get?_push_size _ rfl
  have g4 : (zH5 s.heap x t y u).get? (zH3 s.heap x t y u).objs.size = some _ := Heap.get?_push_of_some _ (Heap.get?_push_size _ rfl)
  have g3 : (zH5 s.heap x t y u).get? (zH2 s.heap x t y u).objs.size = some _ := Heap.get?_push_of_some _ (Heap.get?_push_of_some _ (Heap.get?_push_size _ rfl))
  have g2 : (zH5 s.heap x t y u).get? (zH1 s.heap x t).objs.size = some _ := Heap.get?_push_of_some _ (Heap.get?_push_of_some _ (Heap.get?_push_of_some _ (Heap.get?_push_size _ rfl)))
  have g1 : (zH5 s.heap x t y u).get? s.heap.objs.size = some _ := Heap.get?_push_of_some _ (Heap.get?_push_of_some _ (Heap.get?_push_of_some _ (Heap.get?_push_of_some _ (Heap.get?_push_size _ rfl))))
  show _ ∧ _
  rw [z2, z3, z4] at g5
  rw [z1, z2] at g3
  rw [z3] at g4
  rw [z1] at g2
  rw [z4]
  exact ⟨⟨_, g5, rfl⟩, h _ g5 g3 g4 ⟨_, g1, rfl, rfl⟩ ⟨_, g2, rfl, rfl⟩ z5 fun c o x =>
    Heap.get?_push_of_some _ (Heap.get?_push_of_some _ (Heap.get?_push_of_some _ (Heap.get?_push_of_some _ (Heap.get?_push_of_some _ x))))⟩
end
theorem apart_of (n : Nat) : Apart (n + 4) (n + 2) (n + 3) n (n + 1) :=
  ⟨Nat.ne_of_lt (by omega), Nat.ne_of_lt (by omega), Nat.ne_of_lt (by omega), Nat.ne_of_lt (by omega), Nat.ne_of_lt (by omega), Nat.ne_of_gt (by omega), Nat.ne_of_gt (by omega), Nat.ne_of_gt (by omega), Nat.ne_of_gt (by omega), Nat.ne_of_lt (by omega)⟩
/-- the texts x, y of one length, the signs in new pairs -/
def Itzs (x y : Str) : It :=
  ⟨fun i _ => i < x.cps.size, fun i H v H' => ∃ T c d, v = .ref T ∧ H T = none ∧ H' = upd H T (.tup [.str ⟨#[c]⟩, .str ⟨#[d]⟩]) ∧ x.cps[i]? = some c ∧ y.cps[i]? = some d, fun i _ => i = x.cps.size⟩
theorem turn_zs {P : Program} {w : World} {K : PySem.W.Frag} {elts : List Expr} {kk : Nat} {tpos : Pos} {x y : Str} {t u : Tok} {z TI TO i1 i2 : Addr} (D : Apart z TI TO i1 i2) (hl : x.cps.size = y.cps.size) :
    Turn P w K (.Tuple elts kk tpos) (Itzs x y) [z, TI, TO, i1, i2] z (fun i h => IsZipB h z TI TO .none ∧ IsPair h TI (.ref i1) (.ref i2) ∧ (∃ a b, IsPair h TO a b) ∧ h.IsStrIter i1 "str_ascii_iterator" x t i ∧ h.IsStrIter i2 "str_ascii_iterator" y u i) where
  mem := by simp
  obj := fun i h st c hc => by
    obtain ⟨hz, hTI, ⟨a, b, hTO⟩, ⟨o1, e1, _, d1⟩, ⟨o2, e2, _, d2⟩⟩ := st
    have e' : c = z ∨ c = TI ∨ c = TO ∨ c = i1 ∨ c = i2 := by simpa using hc
    rcases e' with q | q | q | q | q
    · rw [q]; exact ⟨_, hz, fun v q => nomatch q⟩
    · rw [q]; exact ⟨_, hTI, fun v q => nomatch q⟩
    · rw [q]; exact ⟨_, hTO, fun v q => nomatch q⟩
    · rw [q]; exact ⟨o1, e1, fun v q => by rw [d1] at q; cases q⟩
    · rw [q]; exact ⟨o2, e2, fun v q => by rw [d2] at q; cases q⟩
  keep := fun i h h' st k => by
    obtain ⟨hz, hTI, ⟨a, b, hTO⟩, ⟨o1, e1, r1⟩, ⟨o2, e2, r2⟩⟩ := st
    exact ⟨k z (by simp) _ hz, k TI (by simp) _ hTI, ⟨a, b, k TO (by simp) _ hTO⟩, ⟨o1, k i1 (by simp) _ e1, r1⟩, ⟨o2, k i2 (by simp) _ e2, r2⟩⟩
  item := by
    intro X hP hw hK hc i pins s σ H E I hf st hg
    subst hP hw hK
    obtain ⟨hz, hTI, ⟨x0, y0, hTO⟩, h1, h2⟩ := st
    have hg : i < x.cps.size := hg
    have hx : x.cps[i]? = some x.cps[i] := by simp [hg]
    have hg2 : i < y.cps.size := by omega
    have hy : y.cps[i]? = some y.cps[i] := by simp [hg2]
    have hzl : z < s.heap.objs.size := Heap.lt_size hz
    refine pyNext_item D hz hTI hTO h1 h2 hx hy fun h' t1 t2 z' TO' h1' h2' hT hsz hk => ?_
    refine ⟨_, rfl, go_zip (s := { s with heap := h', toks := s.toks + 2 }) z' fun h'' z'' sb => ?_⟩
    have hT2 : h''.get? s.heap.objs.size = some { cls := .type "tuple", data := .seq #[.str ⟨#[x.cps[i]]⟩ t1, .str ⟨#[y.cps[i]]⟩ t2] } := (sb.2 _ (Nat.ne_of_gt hzl)).trans hT
    have new : ObjOk X.prog X.w (upd H s.heap.objs.size (.tup [.str ⟨#[x.cps[i]]⟩, .str ⟨#[y.cps[i]]⟩])) h'' s.heap.objs.size (.tup [.str ⟨#[x.cps[i]]⟩, .str ⟨#[y.cps[i]]⟩]) :=
      ⟨by show 2 ≤ sizeLine; decide, [.str ⟨#[x.cps[i]]⟩ t1, .str ⟨#[y.cps[i]]⟩ t2], .cons ⟨t1, rfl⟩ (.cons ⟨t2, rfl⟩ .nil), ⟨_, hT2, rfl, _, rfl⟩⟩
    have I1 : Inv X pins σ (upd H s.heap.objs.size (.tup [.str ⟨#[x.cps[i]]⟩, .str ⟨#[y.cps[i]]⟩])) { s with heap := h'', toks := s.toks + 2 } :=
      I.turnedNew (t' := s.toks + 2) (ch := [z, TI, TO, i1, i2]) (fun c o hb q => (sb.2 c (fun q' => hb (by simp [q']))).trans (hk c o (fun q' => hb (by simp [q'])) (fun q' => hb (by simp [q'])) (fun q' => hb (by simp [q'])) (fun q' => hb (by simp [q'])) q)) hf (Nat.le_refl _) new
    refine ⟨.ref s.heap.objs.size, _, I1, rfl, ⟨_, _, _, rfl, I.hok.fresh (Nat.le_refl _), rfl, hx, hy⟩, ⟨z'', ?_, ⟨.str ⟨#[x.cps[i]]⟩ t1, .str ⟨#[y.cps[i]]⟩ t2, ?_⟩, ?_, ?_⟩, fun c hcm => ?_⟩
    · exact (sb.2 _ D.TIz).trans (hk _ _ D.TIz D.TITO D.TIi1 D.TIi2 hTI)
    · exact (sb.2 _ D.TOz).trans TO'
    · obtain ⟨o, e, r⟩ := h1'
      exact ⟨o, (sb.2 _ D.i1z).trans e, r⟩
    · obtain ⟨o, e, r⟩ := h2'
      exact ⟨o, (sb.2 _ D.i2z).trans e, r⟩
    · have hlt : c < s.heap.objs.size := by
        have e' : c = z ∨ c = TI ∨ c = TO ∨ c = i1 ∨ c = i2 := by simpa using hcm
        rcases e' with q | q | q | q | q
        · rw [q]; exact hzl
        · rw [q]; exact Heap.lt_size hTI
        · rw [q]; exact Heap.lt_size hTO
        · rw [q]; obtain ⟨_, e1, _⟩ := h1; exact Heap.lt_size e1
        · rw [q]; obtain ⟨_, e2, _⟩ := h2; exact Heap.lt_size e2
      rw [upd_ne (Nat.ne_of_lt hlt)]
      exact (hf c hcm).1
  done := by
    intro X hP hw hK hc i pins s σ H E I hf st hg
    subst hP hw hK
    obtain ⟨hz, hTI, ⟨x0, y0, hTO⟩, h1, h2⟩ := st
    have hg : i = x.cps.size := hg
    have hx : x.cps[i]? = none := by simp [hg]
    have hy : y.cps[i]? = none := by simp [hg, hl]
    exact pyNext_end (I.ok.hd hc) D hz hTI hTO h1 h2 hx hy fun h' hk => ⟨rfl, I.turnedL (t' := s.toks) (ch := [z, TI, TO, i1, i2]) (fun c o hb q =>
      hk c o (fun q' => hb (by simp [q'])) (fun q' => hb (by simp [q'])) (fun q' => hb (by simp [q'])) (fun q' => hb (by simp [q'])) q) hf⟩
  self := fun A i s Q E st h => pyIter_zip st.1 h
theorem walk_zs {x y : Str} : Walk (Itzs x y) x.cps.size (fun _ => True) (fun i H v H' => ∃ T c d, v = .ref T ∧ H T = none ∧ H' = upd H T (.tup [.str ⟨#[c]⟩, .str ⟨#[d]⟩]) ∧ x.cps[i]? = some c ∧ y.cps[i]? = some d) :=
  ⟨fun _ _ hi _ => hi, fun _ _ => rfl, fun _ _ _ _ _ _ y => y⟩
theorem callWith_typeK {M : Model} {A : Around} {E : Value → Shared → Prop} {s : Shared} {pos : Pos} {T : String} {first : List Value} {args : List (Bool × Sem Value)} {keywords : List (Option Str × Sem Value)} {Q : Value → Shared → Prop}
    (hplain : args.any (·.1) = false) (hkw : keywords.any (·.1.isNone) = false)
    (h : wpAny M A (evalArgs (.type T) true args keywords) (fun a s₁ => wpAny M A (PySem.call (.type T) (first ++ a.pos) a.kw) Q E s₁) E s) :
    wpAny M A (callWith pos (.type T) first args keywords) Q E s := by
  unfold callWith
  refine wpAny_bind (wpAny_holding (wpAny_mono h (fun a s₁ h₁ => wpAny_bind (wpAny_standAt ?_)) fun _ _ x => x))
  simp only [hplain, hkw, Bool.or_false]
  refine wpAny_bind (wpAny_pure ?_)
  exact wpAny_bind (wpAny_mono h₁ (fun r s₂ hr => wpAny_bind (wpAny_holding (wpAny_point (wpAny_pure hr)))) fun _ _ x => x)
def iZs (ta : TA) (tk : TA) : TI := fun σ H R => ta σ H fun vs H1 => tk σ H1 fun zs H2 => ∃ x y : Str, vs = [.str x, .str y] ∧ zs = [.bl true] ∧ x.cps.all (· < 128) = true ∧ y.cps.all (· < 128) = true ∧ x.cps.size = y.cps.size ∧ R (Itzs x y) H2
theorem pi_zs {X : Cx} {e e2 : Expr} {ta tk : TA} {p pos tpos : Pos} {elts : List Expr} {kk : Nat} {kws : List Keyword} (hg : Gl X "zip") (hm : X.mg "zip" = none) (ha : PA X [e, e2] ta) (hk : PK X kws tk)
    (hall : (backToKw pos (keywordEach kws X.env)).all (·.1.isSome) = true) (hks : (backToKw pos (keywordEach kws X.env)).filterMap (·.1) = [Str.ofString "strict"]) (hnone : (backToKw pos (keywordEach kws X.env)).any (·.1.isNone) = false)
    (hs : starEach [e, e2] X.env = (false, eval e X.env) :: starEach [e2] X.env) (hpl : (backTo pos (starEach [e, e2] X.env)).any (·.1) = false) :
    PI X (.Tuple elts kk tpos) (.Call (.Name "zip" p) [e, e2] kws pos) (iZs ta tk) := by
  refine ⟨fun pins s σ H R I h => ?_⟩
  refine wpAny_Call_Name_kw (ld_blt I hg hm PyProof.Rows.boot_zip ?_)
  refine callWith_typeK hpl hnone ?_
  have hb : backTo pos (starEach [e, e2] X.env) = (false, eval e X.env) :: backTo pos (starEach [e2] X.env) := by rw [hs]; rfl
  have hr := ha.run pos pins s σ H _ I h
  rw [hb] at hr ⊢
  refine PyProof.Rows.evalArgs_kwB hall (thn hr fun us s1 ⟨vs, H1, I1, r1, q1⟩ => thn (hk.run pos pins s1 σ H1 _ I1 q1) fun ws s2 ⟨zs, H2, I2, r2, q2⟩ => ?_)
  rw [hks]
  obtain ⟨x, y, rfl, rfl, hx, hy, hl, q⟩ := q2
  cases r1 with
  | cons ra rr => cases rr with
    | cons rb rr =>
      cases rr
      obtain ⟨t, rfl⟩ := ra
      obtain ⟨u, rfl⟩ := rb
      obtain ⟨w1, rfl, e1⟩ := vals1 r2
      obtain rfl : w1 = Value.bool true := e1
      refine call_zip hx hy fun h' hz hTI hTO h1 h2 hsz hkk => pyIter_zip hz ?_
      have I3 : Inv X pins σ H2 { s2 with heap := h' } := I2.kept (t' := s2.toks) hkk
      refine ⟨s2.heap.objs.size + 4, [s2.heap.objs.size + 4, s2.heap.objs.size + 2, s2.heap.objs.size + 3, s2.heap.objs.size, s2.heap.objs.size + 1], _, _, H2, rfl, I3, turn_zs (x := x) (y := y) (t := t) (u := u) (apart_of s2.heap.objs.size) hl, ⟨hz, hTI, ⟨_, _, hTO⟩, h1, h2⟩, fun c hcm => ?_, q⟩
      have e' : c = s2.heap.objs.size + 4 ∨ c = s2.heap.objs.size + 2 ∨ c = s2.heap.objs.size + 3 ∨ c = s2.heap.objs.size ∨ c = s2.heap.objs.size + 1 := by simpa using hcm
      have hle : s2.heap.objs.size ≤ c := by
        rcases e' with z | z | z | z | z
        · rw [z]; exact Nat.le_add_right _ _
        · rw [z]; exact Nat.le_add_right _ _
        · rw [z]; exact Nat.le_add_right _ _
        · rw [z]; exact Nat.le_refl _
        · rw [z]; exact Nat.le_add_right _ _
      exact I2.fpOk hle (I2.hok.fresh hle)
end Mi.Z
namespace Mi
open PySem PySem.Spec PyProof.Rows L2
theorem zip_get : ∀ (xs ys : List D) (i : Nat), (zipL xs ys)[i]? = match xs[i]?, ys[i]? with
    | some a, some b => some (.tup [a, b])
    | _, _ => none
  | [], ys, i => by simp [zipL]
  | x :: xs, [], i => by
    simp only [zipL]
    cases h : (x :: xs)[i]? <;> simp
  | x :: xs, y :: ys, 0 => by simp [zipL]
  | x :: xs, y :: ys, i + 1 => by
    simp only [zipL, List.getElem?_cons_succ]
    exact zip_get xs ys i
theorem zip_len : ∀ (xs ys : List D), (zipL xs ys).length = min xs.length ys.length
  | [], ys => by simp [zipL]
  | x :: xs, [] => by simp [zipL]
  | x :: xs, y :: ys => by
    simp only [zipL, List.length_cons]
    rw [zip_len xs ys]
    omega
section
variable {τ : Tbs} {pa : Pa τ} {K : PySem.W.Frag} {a b : Addr} {vs us : List V} {ds es : List D}
theorem wk_zs {x y : S} (hx : x.all (fun c => decide (c < 128)) = true) (hy : y.all (fun c => decide (c < 128)) = true) (hl : x.length = y.length) :
    Wk pa (Z.Itzs ⟨x.toArray⟩ ⟨y.toArray⟩) (fun _ _ => True) (fun i H v H' => ∃ T c d, v = .ref T ∧ H T = none ∧ H' = upd H T (.tup [.str ⟨#[c]⟩, .str ⟨#[d]⟩]) ∧ x[i]? = some c ∧ y[i]? = some d) (zipL (strsL x) (strsL y)) where
  walk := fun B => by
    have w := Z.walk_zs (x := ⟨x.toArray⟩) (y := ⟨y.toArray⟩)
    have e : (⟨x.toArray⟩ : Str).cps.size = (zipL (strsL x) (strsL y)).length := by
      rw [zip_len]
      simp [strsL, hl]
    rw [e] at w
    exact w.mono (fun _ h => h) fun i H v H' _ _ ⟨T, c, d, h1, h2, h3, h4, h5⟩ => ⟨T, c, d, h1, h2, h3, by simpa using h4, by simpa using h5⟩
  gives := fun B i H v H' b hi g rm y => by
    obtain ⟨T, c, d, rfl, hT, rfl, h4, h5⟩ := y
    refine ⟨Ex.new hT, rm.hk.new hT, .tup [.str [c], .str [d]], ?_, ?_⟩
    · rw [zip_get]
      simp [strsL, h4, h5]
    · have hc : c < 128 := by simpa using List.all_eq_true.mp hx c (List.mem_of_getElem? h4)
      have hd : d < 128 := by simpa using List.all_eq_true.mp hy d (List.mem_of_getElem? h5)
      refine .tup upd_same (by show 2 ≤ line; decide) (.cons (.str [c] (by show 1 ≤ line; decide) ?_) (.cons (.str [d] (by show 1 ≤ line; decide) ?_) .nil))
      · have : c < 0x110000 := by omega
        simp [this]
      · have : d < 0x110000 := by omega
        simp [this]
  stays := fun _ _ _ _ g _ => g
def gLL {τ : Tbs} (pa : Pa τ) (a b : Addr) (vs us : List V) (ds es : List D) (B : Addr → Prop) (H : Hp) : Prop := gL pa a vs ds B H ∧ gL pa b us es B H
def gTT {τ : Tbs} (pa : Pa τ) (a b : Addr) (vs us : List V) (ds es : List D) (B : Addr → Prop) (H : Hp) : Prop := gT pa a vs ds B H ∧ gT pa b us es B H
theorem wk_zl (h1 : vs.length = ds.length) (h2 : us.length = es.length) : Wk pa (Itz K a b) (gLL pa a b vs us ds es) (YPair (fun i => vs[i]?) (fun i => us[i]?)) (zipL ds es) where
  walk := fun B => by
    rw [zip_len, ← h1, ← h2]
    exact (walk_zip rfl).mono (fun H g => ⟨SqL.of g.1.2.1, SqL.of g.2.2.1⟩) fun _ _ _ _ _ _ y => y
  gives := fun B i H x H' b hi g rm y => by
    obtain ⟨T, x1, x2, rfl, hT, rfl, e1, e2⟩ := y
    obtain ⟨d, e3, e4⟩ := g.1.2.2.getV e1
    obtain ⟨d', e5, e6⟩ := g.2.2.2.getV e2
    refine ⟨Ex.new hT, rm.hk.new hT, .tup [d, d'], by rw [zip_get, e3, e5], ?_⟩
    exact .tup upd_same (by show 2 ≤ line; decide) ((RepL.cons e4 (.cons e6 .nil)).ex (Ex.new hT) rm)
  stays := fun _ _ _ _ g k => ⟨g.1.stays k, g.2.stays k⟩
theorem walk_zipT {xs ys : List V} {n : Nat} (hn : n = min xs.length ys.length) : Walk (RZ.ItzT K a b) n (fun H => SqT K H a xs ∧ SqT K H b ys) (YPair (fun i => xs[i]?) (fun i => ys[i]?)) := by
  subst hn
  refine ⟨fun i _ hi q => ?_, fun _ q => ⟨xs, ys, q.1, q.2, by omega⟩, fun i H v H' _ q y => ?_⟩
  · have h1 : i < xs.length := by omega
    have h2 : i < ys.length := by omega
    exact ⟨xs, ys, xs[i], ys[i], q.1, q.2, by simp [h1], by simp [h2]⟩
  · obtain ⟨T, x, z, h1, h2, h3, h4, h5⟩ := y
    exact ⟨T, x, z, h1, h2, h3, h4 xs q.1, h5 ys q.2⟩
theorem wk_zt (h1 : vs.length = ds.length) (h2 : us.length = es.length) : Wk pa (RZ.ItzT K a b) (gTT pa a b vs us ds es) (YPair (fun i => vs[i]?) (fun i => us[i]?)) (zipL ds es) where
  walk := fun B => by
    rw [zip_len, ← h1, ← h2]
    exact (walk_zipT rfl).mono (fun H g => ⟨SqT.of g.1.1, SqT.of g.2.1⟩) fun _ _ _ _ _ _ y => y
  gives := fun B i H x H' b hi g rm y => by
    obtain ⟨T, x1, x2, rfl, hT, rfl, e1, e2⟩ := y
    obtain ⟨d, e3, e4⟩ := g.1.2.getV e1
    obtain ⟨d', e5, e6⟩ := g.2.2.getV e2
    refine ⟨Ex.new hT, rm.hk.new hT, .tup [d, d'], by rw [zip_get, e3, e5], ?_⟩
    exact .tup upd_same (by show 2 ≤ line; decide) ((RepL.cons e4 (.cons e6 .nil)).ex (Ex.new hT) rm)
  stays := fun _ _ _ _ g k => ⟨g.1.stays k, g.2.stays k⟩
end
section
variable {X : Cx} {c : Cfg} {W : WX} {pos : Pos} {a e : Expr} {fa fb : Ga → Tr D}
theorem pi_zip' {elts : List Expr} {kk : Nat} {tpos p : Pos} (hg : Gl X "zip") (hm : X.mg "zip" = none) (ha : PE X a (tE X.K c W fa)) (hb : PE X e (tE X.K c W fb)) (hn : notStar a = true) (hn2 : notStar e = true) :
    PI X (.Tuple elts kk tpos) (.Call (.Name "zip" p) [a, e] [] pos) (tS X.K c W fun Γ => (fa Γ).bind fun x => (fb Γ).bind fun y => opZip x y) := by
  have hst : [e].all notStar = true := by simp [hn2]
  refine PI.imp (RZ.pi_zipA hg hm (pa_cons ha (pa_cons hb pa_nil (starEach_of hn2)) (starEach_of hn)) (starEach_of hn) (star_any hst)) fun σ H R ⟨Γ, pa, B, b, o, h⟩ => ?_
  refine ⟨Γ, pa, B, b, o, Tr.wp_mono (fun b1 d h1 v H1 x kk r => ?_) (fun _ _ z => z) _ _ ((Tr.wp_bind _ _).mp h)⟩
  refine ⟨Γ, pa, B, b1, o.ex x kk, Tr.wp_mono (fun b2 d2 h2 v2 H2 x2 k2 r2 => ?_) (fun _ _ z => Er.ex z x) _ _ ((Tr.wp_bind _ _).mp h1)⟩
  have r1 := r.ex x2 (o.ex x kk).rm
  cases r1 with
  | lst n e l r1 => cases r2 with
    | lst n2 e2 l2 r2 => exact ⟨_, _, _, _, rfl, .inl ⟨SqL.of e, SqL.of e2, h2 _ _ _ H2 (x.trans x2) k2 (wk_zl r1.length r2.length) ⟨⟨n, e, r1⟩, ⟨n2, e2, r2⟩⟩⟩⟩
    | _ => exact h2.elim
  | tup e l r1 => cases r2 with
    | tup e2 l2 r2 => exact ⟨_, _, _, _, rfl, .inr ⟨SqT.of e, SqT.of e2, h2 _ _ _ H2 (x.trans x2) k2 (wk_zt r1.length r2.length) ⟨⟨e, r1⟩, ⟨e2, r2⟩⟩⟩⟩
    | _ => exact h2.elim
  | _ => cases r2 <;> exact h2.elim
theorem pi_zipS' {elts : List Expr} {kk j : Nat} {tpos p p2 p3 : Pos} (hg : Gl X "zip") (hm : X.mg "zip" = none) (ha : PE X a (tE X.K c W fa)) (hb : PE X e (tE X.K c W fb)) (hn : notStar a = true) (hn2 : notStar e = true) :
    PI X (.Tuple elts kk tpos) (.Call (.Name "zip" p) [a, e] [⟨some "strict", .Constant (.bool true) j p2, p3⟩] pos) (tS X.K c W fun Γ => (fa Γ).bind fun x => (fb Γ).bind fun y => opZipS x y) := by
  have hst : [a, e].all notStar = true := by simp [hn, hn2]
  refine PI.imp (Z.pi_zs hg hm (pa_cons ha (pa_cons hb pa_nil (starEach_of hn2)) (starEach_of hn)) (pk_cons pe_bl pk_nil) rfl rfl rfl (starEach_of hn) (star_any hst)) fun σ H R ⟨Γ, pa, B, b, o, h⟩ => ?_
  refine ⟨Γ, pa, B, b, o, Tr.wp_mono (fun b1 d h1 v H1 x kk r => ?_) (fun _ _ z => z) _ _ ((Tr.wp_bind _ _).mp h)⟩
  refine ⟨Γ, pa, B, b1, o.ex x kk, Tr.wp_mono (fun b2 d2 h2 v2 H2 x2 k2 r2 => ?_) (fun _ _ z => Er.ex z x) _ _ ((Tr.wp_bind _ _).mp h1)⟩
  have r1 := r.ex x2 (o.ex x kk).rm
  cases r1 with
  | str z hz hz2 => cases r2 with
    | str z' hz' hz2' =>
      simp only [opZipS] at h2
      split at h2
      · rename_i hh
        refine ⟨_, _, rfl, rfl, by simpa using hh.1, by simpa using hh.2.1, by simpa using hh.2.2, h2 _ _ _ H2 (x.trans x2) k2 (wk_zs hh.1 hh.2.1 hh.2.2) True.intro⟩
      · exact h2.elim
    | _ => exact h2.elim
  | _ => cases r2 <;> exact h2.elim
end
end Mi
end
section
set_option linter.all false
set_option maxRecDepth 100000
set_option Elab.async false
set_option maxHeartbeats 1000000
/-! Dict comprehensions. -/
namespace Mi
open PySem PySem.Spec PyProof.Rows L2
section
variable {J : It} {n : Nat} {G : Hp → Prop} {Y : Nat → Hp → V → Hp → Prop}
theorem dc_it (w : Walk J n G Y) {g : TG} {tt : TT} {tk tv : TE} {vs : List Nat} {σ : L2.St} {H1 : Hp} {D : Addr} {Qd : Hp → Prop} (Pv : Nat → Hp → Prop) (h0 : Pv 0 (upd H1 D (.dK []))) (hG : ∀ i H, i ≤ n → Pv i H → G H)
    (hs : ∀ i x H H', i < n → Pv i H → Y i H x H' → g x (wipe σ vs) H' fun σ2 H2 => wipe σ2 vs = wipe σ vs ∧ tt σ2 H2 fun b H3 =>
      if b = true then tk σ2 H3 fun y H4 => tv σ2 H4 fun z H5 => ∃ kvs k, y = kV k ∧ H5 D = some (.dK kvs) ∧ kvs.length < sizeLine ∧ Pv (i + 1) (upd H5 D (.dK (putK kvs k z))) else Pv (i + 1) H3) (hd : ∀ H, Pv n H → Qd H) :
    ∃ W : Nat → Nat → Hp → Prop, (∃ m, W 0 m (upd H1 D (.dK []))) ∧ ∀ i m H, W i m H →
      (J.stop i H ∧ Qd H) ∨ (J.go i H ∧ ∃ Nx : Hp → Prop, (∀ H', Nx H' → ∃ m', m' < m ∧ W (i + 1) m' H') ∧ ∀ x H', J.yld i H x H' → g x (wipe σ vs) H' fun σ2 H2 => wipe σ2 vs = wipe σ vs ∧ tt σ2 H2 fun b H3 =>
        if b = true then tk σ2 H3 fun y H4 => tv σ2 H4 fun z H5 => ∃ kvs k, y = kV k ∧ H5 D = some (.dK kvs) ∧ kvs.length < sizeLine ∧ Nx (upd H5 D (.dK (putK kvs k z))) else Nx H3) := by
  refine ⟨fun i m H => m = n - i ∧ i ≤ n ∧ Pv i H, ⟨n, by simp, Nat.zero_le _, h0⟩, ?_⟩
  rintro i m H ⟨rfl, hi, p⟩
  have q := hG i H hi p
  by_cases hlt : i < n
  · refine .inr ⟨w.goes i H hlt q, Pv (i + 1), fun H' p' => ⟨n - (i + 1), by omega, rfl, hlt, p'⟩, fun x H' y => hs i x H H' hlt p (w.yields i H x H' hlt q y)⟩
  · have e : i = n := by omega
    subst e
    exact .inl ⟨w.stops H q, hd H p⟩
end
theorem put_any (k : S) {τ : Tbs} {pa : Pa τ} {B : Addr → Prop} {H : Hp} : ∀ {kvs : List (Key × V)} {ds : List (S × D)}, RepK pa B H kvs ds → (kvs.any fun kv => decide (kv.1 = Sum.inr ⟨k.toArray⟩)) = (ds.any fun kv => decide (kv.1 = k))
  | _, _, .nil => rfl
  | _, _, .cons (k := k') h r t => by
    rw [List.any_cons, List.any_cons, put_any k t]
    congr 1
    by_cases e : k' = k
    · subst e
      simp
    · have : ¬ (Sum.inr ⟨k'.toArray⟩ : Key) = Sum.inr ⟨k.toArray⟩ := fun z => e (str_inj.mp (Sum.inr.inj z))
      simp [e, this]
theorem put_map (k : S) {τ : Tbs} {pa : Pa τ} {B : Addr → Prop} {H : Hp} {v : V} {d : D} (rv : Rep pa B H v d) : ∀ {kvs : List (Key × V)} {ds : List (S × D)}, RepK pa B H kvs ds →
    RepK pa B H (kvs.map fun kv => if kv.1 = Sum.inr ⟨k.toArray⟩ then (kv.1, v) else kv) (ds.map fun kv => if kv.1 = k then (kv.1, d) else kv)
  | _, _, .nil => .nil
  | _, _, .cons (k := k') h r t => by
    rw [List.map_cons, List.map_cons]
    by_cases e : k' = k
    · subst e
      rw [if_pos rfl, if_pos rfl]
      exact .cons h rv (put_map _ rv t)
    · have : ¬ (Sum.inr ⟨k'.toArray⟩ : Key) = Sum.inr ⟨k.toArray⟩ := fun z => e (str_inj.mp (Sum.inr.inj z))
      rw [if_neg this, if_neg e]
      exact .cons h r (put_map _ rv t)
theorem RepK.append {τ : Tbs} {pa : Pa τ} {B : Addr → Prop} {H : Hp} : ∀ {vs us : List (Key × V)} {ds es : List (S × D)}, RepK pa B H vs ds → RepK pa B H us es → RepK pa B H (vs ++ us) (ds ++ es)
  | _, _, _, _, .nil, s => s
  | _, _, _, _, .cons h r t, s => .cons h r (RepK.append t s)
theorem RepK.put {τ : Tbs} {pa : Pa τ} {B : Addr → Prop} {H : Hp} {kvs : List (Key × V)} {ds : List (S × D)} {k : S} {v : V} {d : D} (r : RepK pa B H kvs ds) (hk : k.length ≤ line ∧ k.all (fun c => decide (c < 0x110000)) = true) (rv : Rep pa B H v d) :
    RepK pa B H (putK kvs (Sum.inr ⟨k.toArray⟩) v) (Mi.put ds k d) := by
  unfold putK Mi.put
  rw [put_any k r]
  split
  · exact put_map k rv r
  · exact r.append (.cons hk rv .nil)
section
variable {X : Cx} {c : Cfg} {sc : Scope} {cl : Cl} {k : Nat} {W : WX} {pos : Pos} {kx vx tg iter : Expr} {fk fv : Ga → Tr D} {fs : Ga → Tr (List D)} {scope : Scope} {g : Tg}
theorem dc_imp (gd : Gd X c sc cl k W) {σ : L2.St} {H : Hp} {Q : VK} (h : tF X.K c W (fun Γ => (fs Γ).bind fun xs => (putAll (fun d => match bindTg d g Γ with
      | some Γ1 => (fk Γ1).noErr.bind fun x => (asStr x).bind fun z => (fv Γ1).noErr.bind fun y => .ok (z, y)
      | none => .stuck) xs []).bind fun kvs => .ok (.dct kvs)) σ H Q) : tDc (tS X.K c W fs) (gTg X.K g) tYes (tE X.K c WF fk) (tE X.K c WF fv) (tgIx g) σ H Q := by
  obtain ⟨Γ, pa, B, b, o, h⟩ := h
  refine ⟨Γ, pa, B, b, o, Tr.wp_mono (fun b1 xs h1 J G Y H1 x kk w gg => ?_) (fun _ _ z => z) _ _ ((Tr.wp_bind _ _).mp h)⟩
  intro D' hD
  have o1 := o.ex x kk
  have kb : Keeps B (fun a => B a ∨ a = D') H1 (upd H1 D' (.dK [])) := Keeps.ban hD
  have x0 : Ex pa H1 (upd H1 D' (.dK [])) := Ex.new hD
  have npD : D' ≠ pa.p := fun z => by
    obtain ⟨l, hl⟩ := o1.rm.hk.at
    rw [← z, hD] at hl
    cases hl
  have ncD : D' ≠ pa.c := fun z => by
    obtain ⟨_, _, _, _, _, hc, _⟩ := o1.rm.hk
    rw [← z, hD] at hc
    cases hc
  have xw : ∀ {H' : Hp} {l : List (Key × V)}, Ex pa H1 H' → Ex pa H1 (upd H' D' (.dK l)) := fun {H' l} y =>
    ⟨fun a u e n t => by rw [upd_ne (ne_of_none e hD)]; exact y.keep a u e n t, fun a u e ht => by
      obtain ⟨u', e', t'⟩ := y.dom a u e ht
      exact ⟨u', by rw [upd_ne (ne_of_none e hD)]; exact e', t'⟩⟩
  have bd : ∀ {H' : Hp}, Ex pa H1 H' → (∃ l, H' D' = some (.dK l)) → ∀ a, (B a ∨ a = D') → ∃ u, H' a = some u ∧ NT u := fun {H'} y hl a ha => by
    rcases ha with ha | ha
    · obtain ⟨u, e, t⟩ := o1.rm.bd a ha
      exact y.dom a u e t
    · obtain ⟨l, hl⟩ := hl
      exact ⟨_, by rw [ha]; exact hl, by intro ps w; cases w⟩
  refine dc_it (w.walk fun a => B a ∨ a = D') (fun i H' => ∃ b vs ys, Hk pa b H' ∧ Ex pa H1 H' ∧ H' D' = some (.dK vs) ∧ vs.length ≤ line ∧ RepK pa (fun a => B a ∨ a = D') H' vs ys ∧ G (fun a => B a ∨ a = D') H' ∧
      (∀ (j : Nat) (d : D), Γ[j]? = some (some d) → ∃ v, σ[j]? = some (some v) ∧ Rep pa (fun a => B a ∨ a = D') H' v d) ∧ (putAll (fun d => match bindTg d g Γ with
      | some Γ1 => (fk Γ1).noErr.bind fun x => (asStr x).bind fun z => (fv Γ1).noErr.bind fun y => .ok (z, y)
      | none => .stuck) (xs.drop i) ys).wp b (fun b l => PoF pa B H1 Q b (.dct l)) (Er X.K c W pa σ H)) ?_ ?_ ?_ ?_
  · refine ⟨b1, [], [], kk.new hD, x0, upd_same, Nat.zero_le _, .nil, w.stays _ _ _ _ gg kb, fun j d hj => ?_, ?_⟩
    · obtain ⟨v, e1, e2⟩ := o1.slots j d hj
      exact ⟨v, e1, e2.keeps kb⟩
    · rw [List.drop_zero]
      exact Tr.wp_mono (fun _ _ z => PoF.ex x z) (fun _ _ z => z) _ _ ((Tr.wp_bind _ _).mp h1)
  · rintro i H' _ ⟨_, _, _, _, _, _, _, _, gg', _⟩
    exact gg'
  · rintro i v H' H2 hi ⟨b2, vs, ys, k2, x2, hd2, hl2, r2, gg2, sl2, h2⟩ y
    have rm2 : Rm pa (fun a => B a ∨ a = D') b2 H' := ⟨k2, .inl o1.rm.bp, bd x2 ⟨_, hd2⟩⟩
    obtain ⟨x3, k3, d, hd, rv⟩ := w.gives _ i H' v H2 b2 hi gg2 rm2 y
    have rm3 := rm2.ex x3 k3
    have gg3 := w.stays _ _ _ _ gg2 (x3.keeps k2 rm2.bp)
    have hdrop : xs.drop i = d :: xs.drop (i + 1) := by
      have e := List.drop_eq_getElem_cons hi
      rw [List.getElem?_eq_getElem hi] at hd
      cases hd
      exact e
    rw [hdrop] at h2
    have h3 := (Tr.wp_bind _ _).mp h2
    have hd3 : H2 D' = some (.dK vs) := x3.keep D' _ hd2 npD (by intro ps z; cases z)
    cases hb : bindTg d g Γ with
    | none =>
      simp only [hb] at h3
      exact h3.elim
    | some Γ1 =>
      simp only [hb] at h3
      have op : OkP (tgIx g) pa (fun a => B a ∨ a = D') H2 (wipe σ (tgIx g)) Γ := ⟨by rw [wipe_length]; exact o.len, fun j e hj hg => by
        obtain ⟨u, h4, h5⟩ := sl2 j e hg
        refine ⟨u, ?_, h5.keeps (x3.keeps k2 rm2.bp)⟩
        rw [wipe_out hj]
        exact h4⟩
      refine tg_binds op rv hb fun σ2 op2 hw => ⟨by rw [hw]; exact wipe_ext (by rw [wipe_length]) fun j hj => wipe_out hj, ?_⟩
      have ok2 : Okk pa (fun a => B a ∨ a = D') b2 H2 σ2 Γ1 := ⟨⟨k3, rm3.bp, rm3.bd⟩, op2.len, fun j e hj => op2.slots j e (by simp) hj⟩
      simp only [tYes, if_true]
      have h4 := (Tr.wp_noErr _ _).mp ((Tr.wp_bind _ _).mp h3)
      refine ⟨Γ1, pa, _, b2, ok2, Er.no (Tr.wp_mono (fun b3 dk h5 vk H3 x4 k4 rk => ?_) (fun _ _ z => z) _ _ h4)⟩
      have ok3 := ok2.ex x4 k4
      cases rk with
      | str z hz hz2 =>
        have h6 := (Tr.wp_noErr _ _).mp ((Tr.wp_bind (fv Γ1).noErr _).mp ((Tr.wp_bind (asStr (.str z)) _).mp h5))
        refine ⟨Γ1, pa, _, b3, ok3, Er.no (Tr.wp_mono (fun b4 dv h7 vv H4 x5 k5 rvv => ?_) (fun _ _ z => z) _ _ h6)⟩
        have x345 := (x3.trans x4).trans x5
        have hd4 : H4 D' = some (.dK vs) := x345.keep D' (.dK vs) hd2 npD (by intro ps z; cases z)
        have kw : Keeps (fun a => B a ∨ a = D') (fun a => B a ∨ a = D') H4 (upd H4 D' (.dK (putK vs (Sum.inr ⟨z.toArray⟩) vv))) := Keeps.write (.inr rfl) hd4 (by intro ts z; cases z) (by intro phi z; cases z)
        have k24 : Keeps (fun a => B a ∨ a = D') (fun a => B a ∨ a = D') H' H4 := x345.keeps k2 rm2.bp
        have h8 : (if ys.length < line then putAll (fun d => match bindTg d g Γ with
          | some Γ1 => (fk Γ1).noErr.bind fun x => (asStr x).bind fun z => (fv Γ1).noErr.bind fun y => .ok (z, y)
          | none => .stuck) (xs.drop (i + 1)) (Mi.put ys z dv) else .stuck).wp b4 (fun b l => PoF pa B H1 Q b (.dct l)) (Er X.K c W pa σ H) := h7
        by_cases hlt : ys.length < line
        · rw [if_pos hlt] at h8
          have hvl : vs.length = ys.length := r2.length
          refine ⟨vs, Sum.inr ⟨z.toArray⟩, rfl, hd4, by rw [line_eq, hvl]; exact hlt, b4, putK vs (Sum.inr ⟨z.toArray⟩) vv, Mi.put ys z dv, k5.put npD ncD (put_dct hd4), xw (x2.trans x345), upd_same, ?_, ((r2.keeps k24).put ⟨hz, hz2⟩ rvv).keeps kw, w.stays _ (fun a => B a ∨ a = D') _ _ (w.stays _ (fun a => B a ∨ a = D') _ _ gg2 k24) kw, fun j e hj => ?_, h8⟩
          · have := length_putK vs (Sum.inr ⟨z.toArray⟩) vv
            omega
          · obtain ⟨u, h4, h5⟩ := sl2 j e hj
            exact ⟨u, h4, (h5.keeps k24).keeps kw⟩
        · rw [if_neg hlt] at h8
          exact h8.elim
      | _ => exact h5.elim
  · rintro H' ⟨b2, vs, ys, k2, x2, hd2, hl2, r2, gg2, sl2, h2⟩
    rw [List.drop_length] at h2
    have h3 : PoF pa B H1 Q b2 (.dct ys) := h2
    exact h3 _ _ x2 k2 (.dct (o1.rm.nb hD) (.inl hd2) hl2 (r2.keeps (Keeps.less fun a ha => .inl ha))) ⟨D', rfl, Nw.of hD, NF.dct hd2⟩
theorem dcIf_imp {fc : Ga → Tr D} (gd : Gd X c sc cl k W) {σ : L2.St} {H : Hp} {Q : VK} (h : tF X.K c W (fun Γ => (fs Γ).bind fun xs => (putAllO (fun d => match bindTg d g Γ with
      | some Γ1 => (fc Γ1).noErr.bind fun t => (truth t).bind fun k' => match k' with
        | true => (fk Γ1).noErr.bind fun x => (asStr x).bind fun z => (fv Γ1).noErr.bind fun y => .ok (some (z, y))
        | false => .ok none
      | none => .stuck) xs []).bind fun kvs => .ok (.dct kvs)) σ H Q) : tDc (tS X.K c W fs) (gTg X.K g) (tT X.K c WF fun Γ => (fc Γ).bind truth) (tE X.K c WF fk) (tE X.K c WF fv) (tgIx g) σ H Q := by
  obtain ⟨Γ, pa, B, b, o, h⟩ := h
  refine ⟨Γ, pa, B, b, o, Tr.wp_mono (fun b1 xs h1 J G Y H1 x kk w gg => ?_) (fun _ _ z => z) _ _ ((Tr.wp_bind _ _).mp h)⟩
  intro D' hD
  have o1 := o.ex x kk
  have kb : Keeps B (fun a => B a ∨ a = D') H1 (upd H1 D' (.dK [])) := Keeps.ban hD
  have x0 : Ex pa H1 (upd H1 D' (.dK [])) := Ex.new hD
  have npD : D' ≠ pa.p := fun z => by
    obtain ⟨l, hl⟩ := o1.rm.hk.at
    rw [← z, hD] at hl
    cases hl
  have ncD : D' ≠ pa.c := fun z => by
    obtain ⟨_, _, _, _, _, hc, _⟩ := o1.rm.hk
    rw [← z, hD] at hc
    cases hc
  have xw : ∀ {H' : Hp} {l : List (Key × V)}, Ex pa H1 H' → Ex pa H1 (upd H' D' (.dK l)) := fun {H' l} y =>
    ⟨fun a u e n t => by rw [upd_ne (ne_of_none e hD)]; exact y.keep a u e n t, fun a u e ht => by
      obtain ⟨u', e', t'⟩ := y.dom a u e ht
      exact ⟨u', by rw [upd_ne (ne_of_none e hD)]; exact e', t'⟩⟩
  have bd : ∀ {H' : Hp}, Ex pa H1 H' → (∃ l, H' D' = some (.dK l)) → ∀ a, (B a ∨ a = D') → ∃ u, H' a = some u ∧ NT u := fun {H'} y hl a ha => by
    rcases ha with ha | ha
    · obtain ⟨u, e, t⟩ := o1.rm.bd a ha
      exact y.dom a u e t
    · obtain ⟨l, hl⟩ := hl
      exact ⟨_, by rw [ha]; exact hl, by intro ps w; cases w⟩
  refine dc_it (w.walk fun a => B a ∨ a = D') (fun i H' => ∃ b vs ys, Hk pa b H' ∧ Ex pa H1 H' ∧ H' D' = some (.dK vs) ∧ vs.length ≤ line ∧ RepK pa (fun a => B a ∨ a = D') H' vs ys ∧ G (fun a => B a ∨ a = D') H' ∧
      (∀ (j : Nat) (d : D), Γ[j]? = some (some d) → ∃ v, σ[j]? = some (some v) ∧ Rep pa (fun a => B a ∨ a = D') H' v d) ∧ (putAllO (fun d => match bindTg d g Γ with
      | some Γ1 => (fc Γ1).noErr.bind fun t => (truth t).bind fun k' => match k' with
        | true => (fk Γ1).noErr.bind fun x => (asStr x).bind fun z => (fv Γ1).noErr.bind fun y => .ok (some (z, y))
        | false => .ok none
      | none => .stuck) (xs.drop i) ys).wp b (fun b l => PoF pa B H1 Q b (.dct l)) (Er X.K c W pa σ H)) ?_ ?_ ?_ ?_
  · refine ⟨b1, [], [], kk.new hD, x0, upd_same, Nat.zero_le _, .nil, w.stays _ _ _ _ gg kb, fun j d hj => ?_, ?_⟩
    · obtain ⟨v, e1, e2⟩ := o1.slots j d hj
      exact ⟨v, e1, e2.keeps kb⟩
    · rw [List.drop_zero]
      exact Tr.wp_mono (fun _ _ z => PoF.ex x z) (fun _ _ z => z) _ _ ((Tr.wp_bind _ _).mp h1)
  · rintro i H' _ ⟨_, _, _, _, _, _, _, _, gg', _⟩
    exact gg'
  · rintro i v H' H2 hi ⟨b2, vs, ys, k2, x2, hd2, hl2, r2, gg2, sl2, h2⟩ y
    have rm2 : Rm pa (fun a => B a ∨ a = D') b2 H' := ⟨k2, .inl o1.rm.bp, bd x2 ⟨_, hd2⟩⟩
    obtain ⟨x3, k3, d, hd, rv⟩ := w.gives _ i H' v H2 b2 hi gg2 rm2 y
    have rm3 := rm2.ex x3 k3
    have gg3 := w.stays _ _ _ _ gg2 (x3.keeps k2 rm2.bp)
    have hdrop : xs.drop i = d :: xs.drop (i + 1) := by
      have e := List.drop_eq_getElem_cons hi
      rw [List.getElem?_eq_getElem hi] at hd
      cases hd
      exact e
    rw [hdrop] at h2
    have h3 := (Tr.wp_bind _ _).mp h2
    have h3 := (Tr.wp_bind _ _).mp h2
    have hd3 : H2 D' = some (.dK vs) := x3.keep D' _ hd2 npD (by intro ps z; cases z)
    cases hb : bindTg d g Γ with
    | none =>
      simp only [hb] at h3
      exact h3.elim
    | some Γ1 =>
      simp only [hb] at h3
      have op : OkP (tgIx g) pa (fun a => B a ∨ a = D') H2 (wipe σ (tgIx g)) Γ := ⟨by rw [wipe_length]; exact o.len, fun j e hj hg => by
        obtain ⟨u, h4, h5⟩ := sl2 j e hg
        refine ⟨u, ?_, h5.keeps (x3.keeps k2 rm2.bp)⟩
        rw [wipe_out hj]
        exact h4⟩
      refine tg_binds op rv hb fun σ2 op2 hw => ⟨by rw [hw]; exact wipe_ext (by rw [wipe_length]) fun j hj => wipe_out hj, ?_⟩
      have ok2 : Okk pa (fun a => B a ∨ a = D') b2 H2 σ2 Γ1 := ⟨⟨k3, rm3.bp, rm3.bd⟩, op2.len, fun j e hj => op2.slots j e (by simp) hj⟩
      have h00 := (Tr.wp_noErr _ _).mp ((Tr.wp_bind (fc Γ1).noErr _).mp h3)
      refine ⟨Γ1, pa, _, b2, ok2, (Tr.wp_bind _ _).mpr (Er.no (Tr.wp_mono (fun b21 dt h01 => truth_no (Tr.wp_mono (fun b22 kk h02 H21 x21 k21 => ?_) (fun _ _ z => z) _ _ ((Tr.wp_bind _ _).mp h01))) (fun _ _ z => z) _ _ h00))⟩
      have ok21 := ok2.ex x21 k21
      cases kk with
      | false =>
        refine iteF ?_
        have x321 := x3.trans x21
        have hd4 : H21 D' = some (.dK vs) := x321.keep D' (.dK vs) hd2 npD (by intro ps z; cases z)
        have k24 : Keeps (fun a => B a ∨ a = D') (fun a => B a ∨ a = D') H' H21 := x321.keeps k2 rm2.bp
        exact ⟨b22, vs, ys, k21, x2.trans x321, hd4, hl2, r2.keeps k24, w.stays _ _ _ _ gg2 k24, fun j e hj => by
          obtain ⟨u, h4, h5⟩ := sl2 j e hj
          exact ⟨u, h4, h5.keeps k24⟩, h02⟩
      | true =>
      refine iteT ?_
      have h4 := (Tr.wp_noErr _ _).mp ((Tr.wp_bind (fk Γ1).noErr _).mp h02)
      refine ⟨Γ1, pa, _, b22, ok21, Er.no (Tr.wp_mono (fun b3 dk h5 vk H3 x41 k4 rk => ?_) (fun _ _ z => z) _ _ h4)⟩
      have x4 := x21.trans x41
      have ok3 := ok2.ex x4 k4
      cases rk with
      | str z hz hz2 =>
        have h6 := (Tr.wp_noErr _ _).mp ((Tr.wp_bind (fv Γ1).noErr _).mp ((Tr.wp_bind (asStr (.str z)) _).mp h5))
        refine ⟨Γ1, pa, _, b3, ok3, Er.no (Tr.wp_mono (fun b4 dv h7 vv H4 x5 k5 rvv => ?_) (fun _ _ z => z) _ _ h6)⟩
        have x345 := (x3.trans x4).trans x5
        have hd4 : H4 D' = some (.dK vs) := x345.keep D' (.dK vs) hd2 npD (by intro ps z; cases z)
        have kw : Keeps (fun a => B a ∨ a = D') (fun a => B a ∨ a = D') H4 (upd H4 D' (.dK (putK vs (Sum.inr ⟨z.toArray⟩) vv))) := Keeps.write (.inr rfl) hd4 (by intro ts z; cases z) (by intro phi z; cases z)
        have k24 : Keeps (fun a => B a ∨ a = D') (fun a => B a ∨ a = D') H' H4 := x345.keeps k2 rm2.bp
        have h8 : (if ys.length < line then putAllO (fun d => match bindTg d g Γ with
      | some Γ1 => (fc Γ1).noErr.bind fun t => (truth t).bind fun k' => match k' with
        | true => (fk Γ1).noErr.bind fun x => (asStr x).bind fun z => (fv Γ1).noErr.bind fun y => .ok (some (z, y))
        | false => .ok none
      | none => .stuck) (xs.drop (i + 1)) (Mi.put ys z dv) else .stuck).wp b4 (fun b l => PoF pa B H1 Q b (.dct l)) (Er X.K c W pa σ H) := h7
        by_cases hlt : ys.length < line
        · rw [if_pos hlt] at h8
          have hvl : vs.length = ys.length := r2.length
          refine ⟨vs, Sum.inr ⟨z.toArray⟩, rfl, hd4, by rw [line_eq, hvl]; exact hlt, b4, putK vs (Sum.inr ⟨z.toArray⟩) vv, Mi.put ys z dv, k5.put npD ncD (put_dct hd4), xw (x2.trans x345), upd_same, ?_, ((r2.keeps k24).put ⟨hz, hz2⟩ rvv).keeps kw, w.stays _ (fun a => B a ∨ a = D') _ _ (w.stays _ (fun a => B a ∨ a = D') _ _ gg2 k24) kw, fun j e hj => ?_, h8⟩
          · have := length_putK vs (Sum.inr ⟨z.toArray⟩) vv
            omega
          · obtain ⟨u, h4, h5⟩ := sl2 j e hj
            exact ⟨u, h4, (h5.keeps k24).keeps kw⟩
        · rw [if_neg hlt] at h8
          exact h8.elim
      | _ => exact h5.elim
  · rintro H' ⟨b2, vs, ys, k2, x2, hd2, hl2, r2, gg2, sl2, h2⟩
    rw [List.drop_length] at h2
    have h3 : PoF pa B H1 Q b2 (.dct ys) := h2
    exact h3 _ _ x2 k2 (.dct (o1.rm.nb hD) (.inl hd2) hl2 (r2.keeps (Keeps.less fun a ha => .inl ha))) ⟨D', rfl, Nw.of hD, NF.dct hd2⟩
theorem pe_dc' (gd : Gd X c sc cl k W) (hi : PI X tg iter (tS X.K c W fs)) (hg : tgB c.N scope g tg = true) (ok : blkB c.N sc scope g = true) (hs : notSet iter = true)
    (hk : ∀ (s : Shared) (H : Hp) (C : Addr) (cv : List (Str × Addr)) (fp : List Addr), PE (X.blk s H scope (compEnvC scope cv C X.env) fp) kx (tE X.K c WF fk))
    (hv : ∀ (s : Shared) (H : Hp) (C : Addr) (cv : List (Str × Addr)) (fp : List Addr), PE (X.blk s H scope (compEnvC scope cv C X.env) fp) vx (tE X.K c WF fv)) :
    PE X (.DictComp kx vx [⟨tg, iter, [], 0⟩] scope pos) (tF X.K c W fun Γ => (fs Γ).bind fun xs => (putAll (fun d => match bindTg d g Γ with
      | some Γ1 => (fk Γ1).noErr.bind fun x => (asStr x).bind fun z => (fv Γ1).noErr.bind fun y => .ok (z, y)
      | none => .stuck) xs []).bind fun kvs => .ok (.dct kvs)) := by
  have ok' := Bool.and_eq_true_iff.mp ok
  have hb : BlkOk X.N X.env.scope scope (ownOf c.N g) := by
    rw [gd.n, gd.sc]
    exact blkOk_by ok'.1
  refine PE.imp (pe_dc (g := gTg X.K g) gd.calm (by rw [gd.n]; exact gd.nd) hi hb (fun s H C cv fp => pg_tg (X := X.blk s H scope (compEnvC scope cv C X.env) fp) (N := c.N) gd.calm (by show X.N.Nodup; rw [gd.n]; exact gd.nd) gd.n (own_blk s H C cv fp) hg) (fun _ _ _ _ _ => pts_nil) hk hv (folded_of hs)) fun σ H Q h => ?_
  rw [of_decide_eq_true ok'.2]
  exact dc_imp gd h
theorem pe_dcIf' {ct : Expr} {fc : Ga → Tr D} (gd : Gd X c sc cl k W) (hi : PI X tg iter (tS X.K c W fs)) (hg : tgB c.N scope g tg = true) (ok : blkB c.N sc scope g = true) (hs : notSet iter = true)
    (ht : ∀ (s : Shared) (H : Hp) (C : Addr) (cv : List (Str × Addr)) (fp : List Addr), PT (X.blk s H scope (compEnvC scope cv C X.env) fp) ct (tT X.K c WF fun Γ => (fc Γ).bind truth))
    (hk : ∀ (s : Shared) (H : Hp) (C : Addr) (cv : List (Str × Addr)) (fp : List Addr), PE (X.blk s H scope (compEnvC scope cv C X.env) fp) kx (tE X.K c WF fk))
    (hv : ∀ (s : Shared) (H : Hp) (C : Addr) (cv : List (Str × Addr)) (fp : List Addr), PE (X.blk s H scope (compEnvC scope cv C X.env) fp) vx (tE X.K c WF fv)) :
    PE X (.DictComp kx vx [⟨tg, iter, [ct], 0⟩] scope pos) (tF X.K c W fun Γ => (fs Γ).bind fun xs => (putAllO (fun d => match bindTg d g Γ with
      | some Γ1 => (fc Γ1).noErr.bind fun t => (truth t).bind fun k' => match k' with
        | true => (fk Γ1).noErr.bind fun x => (asStr x).bind fun z => (fv Γ1).noErr.bind fun y => .ok (some (z, y))
        | false => .ok none
      | none => .stuck) xs []).bind fun kvs => .ok (.dct kvs)) := by
  have ok' := Bool.and_eq_true_iff.mp ok
  have hb : BlkOk X.N X.env.scope scope (ownOf c.N g) := by
    rw [gd.n, gd.sc]
    exact blkOk_by ok'.1
  refine PE.imp (pe_dc (g := gTg X.K g) gd.calm (by rw [gd.n]; exact gd.nd) hi hb (fun s H C cv fp => pg_tg (X := X.blk s H scope (compEnvC scope cv C X.env) fp) (N := c.N) gd.calm (by show X.N.Nodup; rw [gd.n]; exact gd.nd) gd.n (own_blk s H C cv fp) hg) (fun s H C cv fp => pts_one (ht s H C cv fp)) hk hv (folded_of hs)) fun σ H Q h => ?_
  rw [of_decide_eq_true ok'.2]
  exact dcIf_imp gd h
end
end Mi
end
section
set_option linter.all false
set_option maxRecDepth 100000
set_option Elab.async false
set_option maxHeartbeats 1000000
/-! Tables of sets, of every mask whose runs come to all slots. -/
namespace Mi.B
open PySem PySem.Spec PyProof.Rows L2

/-! ### masks -/
def orb (m : Nat) : Nat → Nat → List Nat
  | 0, _ => []
  | n + 1, x => x :: orb m n ((x * 5 + 1) % (m + 1))
theorem lcg_shift (m x : Nat) : ∀ k, lcgI m ((x * 5 + 1) % (m + 1)) k = lcgI m x (k + 1)
  | 0 => rfl
  | k + 1 => congrArg (fun y => (y * 5 + 1) % (m + 1)) (lcg_shift m x k)
theorem orb_mem (m : Nat) : ∀ n x y, y ∈ orb m n x → ∃ k, k < n ∧ lcgI m x k = y
  | 0, x, y, h => by cases h
  | n + 1, x, y, h => by
    rcases List.mem_cons.mp h with e | h
    · exact ⟨0, Nat.succ_pos n, e.symm⟩
    · obtain ⟨k, h1, h2⟩ := orb_mem m n _ y h
      exact ⟨k + 1, Nat.succ_lt_succ h1, by rw [← lcg_shift]; exact h2⟩
theorem lcg_zero (m : Nat) : ∀ k, lcgI m 0 k = lcgN m k
  | 0 => rfl
  | k + 1 => congrArg (fun y => (y * 5 + 1) % (m + 1)) (lcg_zero m k)
theorem round511 : lcgN 511 512 = 0 := by decide +kernel
theorem again511 : ∀ k, lcgN 511 (512 + k) = lcgN 511 k
  | 0 => round511
  | k + 1 => congrArg (fun y => (y * 5 + 1) % 512) (again511 k)
theorem orb511 : ((List.range 512).all fun j => (orb 511 512 0).contains j) = true := by decide +kernel
theorem hit511 {j : Nat} (h : j ≤ 511) : ∃ k, k < 512 ∧ lcgN 511 k = j := by
  have q := List.all_eq_true.mp orb511 j (List.mem_range.mpr (Nat.lt_succ_of_le h))
  obtain ⟨k, h1, h2⟩ := orb_mem 511 512 0 j (List.contains_iff_mem.mp q)
  exact ⟨k, h1, by rw [← lcg_zero]; exact h2⟩
theorem all511 {i j : Nat} (hi : i ≤ 511) (hj : j ≤ 511) : ∃ k, k ≤ 511 ∧ lcgI 511 i k = j := by
  obtain ⟨p, p1, rfl⟩ := hit511 hi
  obtain ⟨q, q1, rfl⟩ := hit511 hj
  by_cases c : p ≤ q
  · exact ⟨q - p, by omega, by rw [lcgN_add, show p + (q - p) = q by omega]⟩
  · refine ⟨512 + q - p, by omega, ?_⟩
    rw [lcgN_add, show p + (512 + q - p) = 512 + q by omega, again511]
def bset (l : List Nat) : Nat := l.foldl (fun a j => a ||| (1 <<< j)) 0
theorem bset_mem : ∀ (l : List Nat) (a j : Nat), (l.foldl (fun a j => a ||| (1 <<< j)) a).testBit j = true → a.testBit j = true ∨ j ∈ l
  | [], a, j, h => .inl h
  | x :: l, a, j, h => by
    rcases bset_mem l _ j h with h | h
    · rw [Nat.testBit_or, Bool.or_eq_true] at h
      rcases h with h | h
      · exact .inl h
      · rw [Nat.testBit_shiftLeft, Bool.and_eq_true, Nat.testBit_one_eq_true_iff_self_eq_zero] at h
        have h1 := of_decide_eq_true h.1
        exact .inr (by rw [show j = x by omega]; exact List.mem_cons_self)
    · exact .inr (List.mem_cons_of_mem _ h)
theorem round2047 : lcgN 2047 2048 = 0 := by decide +kernel
theorem again2047 : ∀ k, lcgN 2047 (2048 + k) = lcgN 2047 k
  | 0 => round2047
  | k + 1 => congrArg (fun y => (y * 5 + 1) % 2048) (again2047 k)
theorem orb2047 : bset (orb 2047 2048 0) = 2 ^ 2048 - 1 := by decide +kernel
theorem hit2047 {j : Nat} (h : j ≤ 2047) : ∃ k, k < 2048 ∧ lcgN 2047 k = j := by
  have q : (bset (orb 2047 2048 0)).testBit j = true := by
    rw [orb2047, Nat.testBit_two_pow_sub_one]
    exact decide_eq_true (by omega)
  rcases bset_mem _ _ _ q with z | z
  · rw [Nat.zero_testBit] at z
    cases z
  · obtain ⟨k, h1, h2⟩ := orb_mem 2047 2048 0 j z
    exact ⟨k, h1, by rw [← lcg_zero]; exact h2⟩
theorem all2047 {i j : Nat} (hi : i ≤ 2047) (hj : j ≤ 2047) : ∃ k, k ≤ 2047 ∧ lcgI 2047 i k = j := by
  obtain ⟨p, p1, rfl⟩ := hit2047 hi
  obtain ⟨q, q1, rfl⟩ := hit2047 hj
  by_cases c : p ≤ q
  · exact ⟨q - p, by omega, by rw [lcgN_add, show p + (q - p) = q by omega]⟩
  · refine ⟨2048 + q - p, by omega, ?_⟩
    rw [lcgN_add, show p + (2048 + q - p) = 2048 + q by omega, again2047]
/-- from every hash each slot begins a run soon enough -/
def Known (m : Nat) : Prop := m = 7 ∨ m = 31 ∨ m = 127 ∨ m = 511 ∨ m = 2047
def Full (m : Nat) : Prop := m % 2 = 1 ∧ m ≤ 2047 ∧ Known m ∧ ∀ (h : Int) (j : Nat), j ≤ m → ∃ n, n ≤ m + 12 ∧ runI m (SetTable.bits h) n = j
theorem full7 : Full 7 := ⟨rfl, by decide, .inl rfl, fun h j hj => run_meets (.inl rfl) h hj⟩
theorem full31 : Full 31 := ⟨rfl, by decide, .inr (.inl rfl), fun h j hj => run_meets (.inr (.inl rfl)) h hj⟩
theorem full127 : Full 127 := ⟨rfl, by decide, .inr (.inr (.inl rfl)), fun h j hj => run_meets (.inr (.inr rfl)) h hj⟩
theorem full2047 : Full 2047 := ⟨rfl, Nat.le_refl _, .inr (.inr (.inr (.inr rfl))), fun h j hj => by
  obtain ⟨k, h1, h2⟩ := all2047 (runI_le 2047 (SetTable.bits h) 12) hj
  exact ⟨12 + k, by omega, (runI_tail (bits_lt h) k).trans h2⟩⟩
theorem full511 : Full 511 := ⟨rfl, by decide, .inr (.inr (.inr (.inl rfl))), fun h j hj => by
  obtain ⟨k, h1, h2⟩ := all511 (runI_le 511 (SetTable.bits h) 12) hj
  exact ⟨12 + k, by omega, (runI_tail (bits_lt h) k).trans h2⟩⟩
theorem Full.reach {m : Nat} (F : Full m) (h : Int) {j : Nat} (hj : j ≤ m) : ∃ k, k < 10 * SetTable.turns m ∧ way m h k = j := by
  obtain ⟨n, h1, h2⟩ := F.2.2.2 h j hj
  obtain ⟨k, h3, h4⟩ := run_nth m (SetTable.bits h) n
  exact ⟨k, by unfold SetTable.turns; omega, by show (nth m _ k).j = j; rw [h4]; exact h2⟩
theorem way_in {m : Nat} (h : Int) (k : Nat) : way m h k ≤ m := by
  have a1 : SetTable.bits h % (m + 1) ≤ m := Nat.le_of_lt_succ (Nat.mod_lt _ (Nat.succ_pos m))
  have a2 := nth_in (m := m) k (runAt m (SetTable.bits h % (m + 1)) (SetTable.bits h)) (by
    have a3 := runEnd_bd a1
    unfold runAt
    simp only
    omega)
  exact Nat.le_trans (Nat.le_add_right _ _) a2

/-! ### the table's word -/
structure Tb (tb : SetTable) (hs : List Int) : Prop where
  asc : Ris tb.place.toList
  nodum : tb.dummies = #[]
  cnt : tb.place.size = hs.length
  full : Full tb.mask
  inside : ∀ z ∈ tb.place.toList, z ≤ tb.mask
  path : ∀ (i : Nat) (g : Int) (j : Nat), hs[i]? = some g → tb.place.toList[i]? = some j → ∃ k, way tb.mask g k = j ∧ ∀ c, c < k → way tb.mask g c ∈ tb.place.toList
section
variable {tb : SetTable} {hs : List Int}
theorem Tb.len (T : Tb tb hs) : tb.place.toList.length = hs.length := by rw [Array.length_toList]; exact T.cnt
/-- the first gap on the way -/
theorem Tb.gap (T : Tb tb hs) (hl : hs.length ≤ tb.mask) (g : Int) : ∃ n, n < 10 * SetTable.turns tb.mask ∧ way tb.mask g n ∉ tb.place.toList ∧ ∀ c, c < n → way tb.mask g c ∈ tb.place.toList := by
  obtain ⟨j, j1, j2⟩ := st_missing tb.place.toList (tb.mask + 1) (by rw [T.len]; omega)
  obtain ⟨k, k1, k2⟩ := T.full.reach g (Nat.le_of_lt_succ j1)
  obtain ⟨n, n1, n2, n3⟩ := st_least (p := fun n => way tb.mask g n ∉ tb.place.toList) k (fun h => j2 (k2 ▸ h))
  exact ⟨n, Nat.lt_of_le_of_lt n1 k1, n2, fun c hc => Classical.byContradiction (n3 c hc)⟩
theorem Tb.ahead (T : Tb tb hs) {g : Int} {n i j : Nat} (hn : way tb.mask g n ∉ tb.place.toList) (h1 : hs[i]? = some g) (h2 : tb.place.toList[i]? = some j) : ∃ k, k < n ∧ way tb.mask g k = j := by
  obtain ⟨k, e, b⟩ := T.path i g j h1 h2
  refine ⟨k, Nat.lt_of_not_le fun c => ?_, e⟩
  rcases Nat.lt_or_eq_of_le c with c | c
  · exact hn (b n c)
  · exact hn (by rw [c, e]; exact List.mem_of_getElem? h2)
/-- one more -/
theorem Tb.more (T : Tb tb hs) {g : Int} {n : Nat} (hn : way tb.mask g n ∉ tb.place.toList) (hb : ∀ c, c < n → way tb.mask g c ∈ tb.place.toList) :
    ∃ p, p = SetTable.below tb.place (way tb.mask g n) ∧ p ≤ hs.length ∧ (tb.put (way tb.mask g n)).2 = p ∧ Tb (tb.put (way tb.mask g n)).1 (hs.take p ++ g :: hs.drop p) ∧ (tb.put (way tb.mask g n)).1.fill = hs.length + 1 := by
  have hw : way tb.mask g n ≤ tb.mask := way_in g n
  generalize hj : way tb.mask g n = j at hn hw ⊢
  have c1 := (below_cut T.asc j).1
  refine ⟨SetTable.below tb.place j, rfl, by rw [← T.cnt]; exact c1, rfl, ?_, ?_⟩
  all_goals
    have pl : SetTable.below tb.place j ≤ tb.place.toList.length := c1
    have ph : SetTable.below tb.place j ≤ hs.length := by rw [← T.len]; exact pl
    have pp := put_place tb j
    have ps : (tb.put j).1.place.size = hs.length + 1 := by
      have := congrArg List.length pp
      rw [len_ins _ pl, Array.length_toList, T.len] at this
      exact this
  · have sub : ∀ {z : Nat}, z ∈ tb.place.toList → z ∈ (tb.put j).1.place.toList := fun hz => by rw [pp]; exact mem_ins.2 (.inr hz)
    refine { asc := ris_insert T.asc fun e => hn (List.mem_of_getElem? (by rw [Array.getElem?_toList]; exact e)), nodum := put_dm T.nodum j, cnt := by rw [len_ins _ ph]; exact ps, full := T.full, inside := fun z hz => ?_, path := fun i g' j' h1 h2 => ?_ }
    · rw [pp] at hz
      rcases mem_ins.1 hz with e | hz
      · exact e ▸ hw
      · exact T.inside z hz
    · show ∃ k, way tb.mask g' k = j' ∧ ∀ c, c < k → way tb.mask g' c ∈ (tb.put j).1.place.toList
      rw [tins_get hs ph] at h1
      rw [pp, tins_get _ pl] at h2
      have old : ∀ i', hs[i']? = some g' → tb.place.toList[i']? = some j' → ∃ k, way tb.mask g' k = j' ∧ ∀ c, c < k → way tb.mask g' c ∈ (tb.put j).1.place.toList := fun i' e1 e2 => by
        obtain ⟨k, e, b⟩ := T.path i' g' j' e1 e2
        exact ⟨k, e, fun c hc => sub (b c hc)⟩
      split at h1
      · rename_i c
        rw [if_pos c] at h2
        exact old i h1 h2
      · rename_i c
        rw [if_neg c] at h2
        split at h1
        · rename_i d
          rw [if_pos d] at h2
          cases h1
          cases h2
          exact ⟨n, hj, fun c hc => sub (hb c hc)⟩
        · rename_i d
          rw [if_neg d] at h2
          exact old (i - 1) h1 h2
  · show (tb.put j).1.place.size + (tb.put j).1.dummies.size = hs.length + 1
    rw [ps, put_dm T.nodum j]
    rfl
theorem Tb.odd (T : Tb tb hs) : ¬ tb.gaveWay = true := by
  unfold SetTable.gaveWay
  rw [T.full.1]
  decide
theorem Tb.fits (T : Tb tb hs) (hl : hs.length ≤ tb.mask) : tb.fits hs.length = true := by
  unfold SetTable.fits SetTable.fill
  rw [T.nodum, Bool.and_eq_true, beq_iff_eq, decide_eq_true_eq]
  refine ⟨T.cnt, ?_⟩
  show tb.place.size + 0 ≤ tb.mask
  rw [T.cnt]
  exact hl
end

/-! ### laid anew -/
theorem seat {m : Nat} (F : Full m) (ow : Array (Option Nat)) (g : Int) {j : Nat} (hj : j ≤ m) (hf : oAt ow j = none) :
    ∃ n, SetTable.layClean.free m ow (SetTable.turns m) (SetTable.bits g % (m + 1)) (SetTable.bits g) = some (way m g n) ∧ oAt ow (way m g n) = none ∧ ∀ c, c < n → oAt ow (way m g c) ≠ none := by
  obtain ⟨r, r1, r2⟩ := F.2.2.2 g j hj
  have e : way m g (off m (SetTable.bits g % (m + 1)) (SetTable.bits g) r) = j := by
    show (nth m (runAt m _ _) _).j = j
    rw [nth_off, itL_run]
    exact r2
  obtain ⟨n, n1, n2, n3⟩ := st_least (p := fun n => oAt ow (way m g n) = none) _ (show oAt ow (way m g (off m (SetTable.bits g % (m + 1)) (SetTable.bits g) r)) = none by rw [e]; exact hf)
  refine ⟨n, free_spec m ow _ r _ _ n (by unfold SetTable.turns; omega) n1 (fun c hc => ?_) ?_, n2, n3⟩
  · have := n3 c hc
    show (oAt ow (way m g c)).isNone = false
    cases hz : oAt ow (way m g c) with
    | none => exact absurd hz this
    | some _ => rfl
  · show (oAt ow (way m g n)).isNone = true
    rw [n2]
    rfl
theorem own_next {m : Nat} (F : Full m) {dn : List Int} {ow : Array (Option Nat)} (W : L2.Own m dn ow) (hl : dn.length ≤ m) (g : Int) :
    ∃ j, SetTable.layClean.free m ow (SetTable.turns m) (SetTable.bits g % (m + 1)) (SetTable.bits g) = some j ∧ L2.Own m (dn ++ [g]) (ow.setIfInBounds j (some dn.length)) := by
  obtain ⟨ps, p1, p2⟩ := W.ps
  obtain ⟨f, f1, f2⟩ := st_missing ps (m + 1) (by omega)
  have f3 : oAt ow f = none := Classical.byContradiction fun c => f2 (p2 f (Nat.le_of_lt_succ f1) c)
  obtain ⟨n, n1, n2, n3⟩ := seat F ow g (Nat.le_of_lt_succ f1) f3
  have hw : way m g n ≤ m := way_in g n
  refine ⟨way m g n, n1, ?_⟩
  have self : oAt (ow.setIfInBounds (way m g n) (some dn.length)) (way m g n) = some dn.length := oAt_set_self _ (by rw [W.sz]; omega)
  have keep : ∀ {i : Nat}, oAt ow i ≠ none → oAt (ow.setIfInBounds (way m g n) (some dn.length)) i ≠ none := fun {i} hi => by
    by_cases c : i = way m g n
    · rw [c, self]
      exact Option.some_ne_none _
    · rw [oAt_set_ne _ c]
      exact hi
  refine { sz := by rw [Array.size_setIfInBounds]; exact W.sz, at_ := fun j k hj e => ?_, all := fun k hk => ?_, ps := ⟨way m g n :: ps, by simp [p1], fun j hj e => ?_⟩ }
  · by_cases c : j = way m g n
    · subst c
      rw [self] at e
      cases e
      exact ⟨g, n, by simp, rfl, fun c hc => keep (n3 c hc)⟩
    · rw [oAt_set_ne _ c] at e
      obtain ⟨g', n', e1, e2, e3⟩ := W.at_ j k hj e
      exact ⟨g', n', by rw [List.getElem?_append_left (List.getElem?_eq_some_iff.mp e1).1]; exact e1, e2, fun c hc => keep (e3 c hc)⟩
  · rw [List.length_append] at hk
    by_cases c : k < dn.length
    · obtain ⟨j, j1, j2⟩ := W.all k c
      exact ⟨j, j1, by rw [oAt_set_ne _ fun z => by rw [z, n2] at j2; cases j2]; exact j2⟩
    · have ek : k = dn.length := by simp at hk; omega
      exact ⟨way m g n, hw, by rw [ek]; exact self⟩
  · by_cases c : j = way m g n
    · exact c ▸ List.mem_cons_self
    · rw [oAt_set_ne _ c] at e
      exact List.mem_cons_of_mem _ (p2 j hj e)
theorem own_all {m : Nat} (F : Full m) : ∀ (rs dn : List Int) (ow : Array (Option Nat)), L2.Own m dn ow → dn.length + rs.length ≤ m →
    ∃ ow', rs.foldl (stepF m) (some (ow, dn.length)) = some (ow', (dn ++ rs).length) ∧ L2.Own m (dn ++ rs) ow'
  | [], dn, ow, W, _ => ⟨ow, by rw [List.append_nil]; rfl, by rw [List.append_nil]; exact W⟩
  | g :: rs, dn, ow, W, hl => by
    simp only [List.length_cons] at hl
    obtain ⟨j, e, W'⟩ := own_next F W (by omega) g
    obtain ⟨ow', a, b⟩ := own_all F rs (dn ++ [g]) _ W' (by simp; omega)
    rw [List.append_assoc] at a b
    simp only [List.length_append, List.length_singleton] at a
    exact ⟨ow', by rw [List.foldl_cons, stepF_some e, a, List.length_append, List.length_cons, Nat.add_comm 1], b⟩
theorem lay_all {m : Nat} (F : Full m) {hs : Array Int} (hn : hs.size ≤ m) : ∃ ow, SetTable.layClean m hs = some ow ∧ L2.Own m hs.toList ow := by
  obtain ⟨ow, a, b⟩ := own_all F hs.toList [] _ (L2.Own.init m) (by simpa using hn)
  refine ⟨ow, ?_, b⟩
  rw [layClean_eq]
  exact congrArg (Option.map Prod.fst) a
theorem relaid_all (tb : SetTable) {hs : Array Int} {wanted m : Nat} (hw : SetTable.sizeAbove wanted = m + 1) (F : Full m) (hn : hs.size ≤ m) :
    ∃ tb' od, tb.relaid hs wanted = some (tb', od) ∧ od.toList.Perm (List.range hs.size) ∧ Tb tb' (od.toList.map fun i => hs.getD i 0) ∧ tb'.mask = m ∧ tb'.led = tb.led ∧ tb'.plain = tb.plain := by
  obtain ⟨ow, e, W⟩ := lay_all F hn
  have hr : tb.relaid hs wanted = some (tabOf tb m ow, ((liveOf m ow).map (·.2)).toArray) := by
    rw [relaid_eq, hw]
    show (SetTable.layClean m hs).bind _ = _
    rw [e]
    rfl
  have live := ris_live (fun j => ow.getD j none) (List.range (m + 1)) List.pairwise_lt_range
  have l1 : Ris ((liveOf m ow).map (·.1)) := live.1
  have l2 : ∀ x ∈ (liveOf m ow).map (·.1), x ∈ List.range (m + 1) := live.2
  have up : ∀ k, k < hs.size → k ∈ (liveOf m ow).map (·.2) := fun k hk => by
    obtain ⟨j, a, b⟩ := W.all k (by simpa using hk)
    exact List.mem_map.mpr ⟨(j, k), (mem_live W.sz).2 ⟨a, b⟩, rfl⟩
  have cnt : (liveOf m ow).length = hs.size := by
    obtain ⟨ps, p1, p2⟩ := W.ps
    have a := nat_nodup_len ((liveOf m ow).map Prod.fst) ps (List.Pairwise.imp (fun h => Nat.ne_of_lt h) l1) fun x hx => by
      obtain ⟨⟨y, k⟩, hq, rfl⟩ := List.mem_map.mp hx
      have q := (mem_live W.sz).1 hq
      exact p2 y q.1 (by rw [q.2]; exact Option.some_ne_none k)
    have b := nat_nodup_len (List.range hs.size) ((liveOf m ow).map (·.2)) List.nodup_range fun k hk => up k (List.mem_range.mp hk)
    simp only [List.length_map, List.length_range, Array.length_toList] at a b p1
    omega
  refine ⟨tabOf tb m ow, _, hr, perm_range hs.size _ (by simpa using cnt) up, { asc := l1, nodum := rfl, cnt := by simp [tabOf], full := F, inside := fun z hz => Nat.le_of_lt_succ (List.mem_range.mp (l2 z hz)), path := fun i g j h1 h2 => ?_ }, rfl, rfl, rfl⟩
  have h1 : (((liveOf m ow).map (·.2)).map fun i => hs.getD i 0)[i]? = some g := h1
  have h2 : ((liveOf m ow).map (·.1))[i]? = some j := h2
  simp only [List.getElem?_map, Option.map_map] at h1 h2
  cases hq : (liveOf m ow)[i]? with
  | none => rw [hq] at h2; cases h2
  | some q =>
    obtain ⟨y, k⟩ := q
    rw [hq] at h1 h2
    have ej : y = j := Option.some.inj h2
    have eg : hs.getD k 0 = g := Option.some.inj h1
    subst ej
    have q := (mem_live W.sz).1 (List.mem_of_getElem? hq)
    obtain ⟨g', n, n1, n2, n3⟩ := W.at_ y k q.1 q.2
    have eg' : g' = g := by
      rw [← eg, Array.getD_eq_getD_getElem?, ← Array.getElem?_toList, n1]
      rfl
    subst eg'
    refine ⟨n, n2, fun c hc => ?_⟩
    cases hz : oAt ow (way m g' c) with
    | none => exact absurd hz (n3 c hc)
    | some k' => exact List.mem_map.mpr ⟨(way m g' c, k'), (mem_live W.sz).2 ⟨way_in g' c, hz⟩, rfl⟩
theorem size2048 : SetTable.sizeAbove (SetTable.grown 307) = 2048 := by decide +kernel
theorem size308 : SetTable.sizeAbove (SetTable.grown 77) = 512 := by decide +kernel
end Mi.B
end
section
set_option linter.all false
set_option maxRecDepth 100000
set_option Elab.async false
set_option maxHeartbeats 2000000
/-! Sets of tuples of ints and texts: search, adding. -/
namespace Mi.B
open PySem PySem.Spec PyProof.Rows L2
abbrev Kx (P : Program) (w : World) (h : Heap) (k : List Key) (b : Addr) : Prop := IsTupleKey (mixKind P w) h k b
abbrev hx (P : Program) (w : World) (k : List Key) : Int := tupleKeyHash (mixKind P w) k
section
variable {P : Program} {w : World} {A : Around} {E : Value → Shared → Prop} {s : Shared}
theorem item_shape {k : List Key} {vs : List Value} (h : ItemsAre (mixKind P w) k vs) : ∀ v ∈ vs, (∃ i t, v = Value.int i t) ∨ ∃ x t, v = Value.str x t := by
  induction h with
  | nil => intro v hv; cases hv
  | cons h1 _ ih =>
    intro v hv
    rcases List.mem_cons.mp hv with rfl | hv
    · rcases keyIs_shape (show keyIs _ v = true from h1) with ⟨i, t, _, e⟩ | ⟨x, t, _, e⟩
      · exact .inl ⟨i, t, e⟩
      · exact .inr ⟨x, t, e⟩
    · exact ih v hv
theorem noClass {v : Value} (h : (∃ i t, v = Value.int i t) ∨ ∃ x t, v = Value.str x t) (n : Nat) : ofAClassStatement n v = pure false := by
  rcases h with ⟨i, t, rfl⟩ | ⟨x, t, rfl⟩ <;> cases n <;> rfl
theorem byHash {v : Value} (h : (∃ i t, v = Value.int i t) ∨ ∃ x t, v = Value.str x t) (n : Nat) : ∃ b, hashByValue n v = pure b := by
  rcases h with ⟨i, t, rfl⟩ | ⟨x, t, rfl⟩ <;> cases n <;> exact ⟨_, rfl⟩
theorem cls_pair {k : List Key} {b : Addr} {Q : Bool → Shared → Prop} (hk : Kx P w s.heap k b) (q : Q false s) : wpAny (model P w) A (ofAClassStatement 8 (.ref b)) Q E s := by
  have ty := hk.typeIs
  obtain ⟨ob, its, n, g, _, dt, ia⟩ := hk
  unfold ofAClassStatement
  refine wpAny_bind (wpAny_typeOf ty ?_)
  simp only [show (("tuple" : String) == "tuple") = true by decide, if_true, Bool.not_true, Bool.false_eq_true, if_false]
  first | refine wpAny_bind (wpAny_pure ?_) | skip
  (try simp only [Bool.not_true, Bool.false_eq_true, if_false])
  show wpAny _ _ (seqItems? (.ref b) >>= _) _ _ s
  refine wpAny_bind (wpAny_seqItems g dt ?_)
  dsimp only
  refine wpAny_bind ?_
  show wpAny _ _ (forIn its _ _) _ _ s
  rw [← Array.forIn_toList]
  refine wpAny_forIn_list _ (fun rs (z : Option Bool × PUnit) s' => (z.1 = none ∧ s' = s) ∧ ∀ v ∈ rs, (∃ i t, v = Value.int i t) ∨ ∃ x t, v = Value.str x t) _ ?_ ?_ _ _ ⟨⟨rfl, rfl⟩, item_shape ia⟩
  · rintro v rs z s' ⟨⟨hz, rfl⟩, hv⟩
    rw [noClass (hv v List.mem_cons_self)]
    refine wpAny_bind (wpAny_pure ?_)
    simp only [Bool.false_eq_true, if_false]
    exact wpAny_pure ⟨⟨rfl, rfl⟩, fun u hu => hv u (List.mem_cons_of_mem _ hu)⟩
  · rintro ⟨z1, z2⟩ s' ⟨⟨hz, rfl⟩, _⟩
    simp only at hz
    subst hz
    exact wpAny_pure q
theorem hash_pair {k : List Key} {b : Addr} {Q : Bool → Shared → Prop} (hk : Kx P w s.heap k b) (q : ∀ y, Q y s) : wpAny (model P w) A (hashByValue 8 (.ref b)) Q E s := by
  have ty := hk.typeIs
  obtain ⟨ob, its, n, g, _, dt, ia⟩ := hk
  unfold hashByValue
  refine wpAny_bind (wpAny_specialOf ty F.slot_tuple_hash.lookup ?_)
  show wpAny _ _ (seqItems? (.ref b) >>= _) _ _ s
  refine wpAny_bind (wpAny_seqItems g dt ?_)
  refine wpAny_bind ?_
  show wpAny _ _ (forIn its _ _) _ _ s
  rw [← Array.forIn_toList]
  have sh := item_shape ia
  generalize its.toList = us at sh
  clear ia dt
  induction us with
  | nil =>
    rw [List.forIn_nil]
    exact wpAny_pure (wpAny_pure (q true))
  | cons v us ih =>
    rw [List.forIn_cons]
    obtain ⟨y, e⟩ := byHash (sh v List.mem_cons_self) 7
    rw [e]
    refine wpAny_bind (wpAny_bind (wpAny_pure ?_))
    cases y with
    | false =>
      simp only [Bool.not_false, if_true]
      exact wpAny_pure (wpAny_pure (wpAny_pure (q false)))
    | true =>
      simp only [Bool.not_true, Bool.false_eq_true, if_false]
      exact wpAny_pure (ih fun u hu => sh u (List.mem_cons_of_mem _ hu))
/-- a search among such tuples shows nothing -/
theorem unseen {k : List Key} {b : Addr} {Q : Bool → Shared → Prop} (hk : Kx P w s.heap k b) {ys : List Value} (hy : ∀ y ∈ ys, ∃ k' c, y = Value.ref c ∧ Kx P w s.heap k' c) (q : Q false s) :
    wpAny (model P w) A (searchCouldBeSeen (.ref b) ys) Q E s := by
  unfold searchCouldBeSeen
  refine wpAny_bind ?_
  refine wpAny_forIn_list _ (fun rs (z : Option Bool × PUnit) s' => (z.1 = none ∧ s' = s) ∧ ∀ y ∈ rs, ∃ k' c, y = Value.ref c ∧ Kx P w s.heap k' c) _ ?_ ?_ _ _ ⟨⟨rfl, rfl⟩, hy⟩
  · rintro v rs z s' ⟨⟨hz, rfl⟩, hv⟩
    obtain ⟨k', c, rfl, kc⟩ := hv v List.mem_cons_self
    have nx : ∀ y ∈ rs, ∃ k' c, y = Value.ref c ∧ Kx P w s'.heap k' c := fun u hu => hv u (List.mem_cons_of_mem _ hu)
    dsimp only
    by_cases c1 : (b == c || (carriedByValue (.ref b) && carriedByValue (.ref c))) = true
    · exact wp_if_pos c1 (wpAny_pure ⟨⟨rfl, rfl⟩, nx⟩)
    · refine wp_if_neg c1 (wpAny_bind (wpAny_eqIsQuiet_tuple hk ?_))
      simp only [Bool.not_true, Bool.false_eq_true, if_false]
      refine wpAny_bind (wpAny_eqIsQuiet_tuple kc ?_)
      simp only [Bool.not_true, Bool.false_eq_true, if_false]
      refine wpAny_bind (cls_pair hk ?_)
      simp only [Bool.false_eq_true, if_false]
      refine wpAny_bind (cls_pair kc ?_)
      simp only [Bool.false_eq_true, if_false]
      exact wpAny_pure ⟨⟨rfl, rfl⟩, nx⟩
  · rintro ⟨z1, z2⟩ s' ⟨⟨hz, rfl⟩, _⟩
    simp only at hz
    subst hz
    exact wpAny_pure q

/-! ### the object -/
def ents (P : Program) (w : World) (L : List (Addr × List Key)) : List (Int × Value) := L.map fun p => (hx P w p.2, Value.ref p.1)
def most : Nat := 1000
structure Sx (P : Program) (w : World) (h : Heap) (a : Addr) (L : List (Addr × List Key)) (es : Array (Int × Value)) (ep : Nat) (tb : SetTable) : Prop where
  ob : ∃ o, h.get? a = some o ∧ o.ExactSet ∧ o.data = .set es ep tb
  rows : es.toList = ents P w L
  tab : Tb tb (L.map fun p => hx P w p.2)
  nd : (L.map (·.2)).Nodup
  tup : ∀ p ∈ L, Kx P w h p.2 p.1
  led : w.params.followText "set-order" = true ∨ tb.led = true
  room : L.length * 5 < tb.mask * 3
variable {a : Addr} {L : List (Addr × List Key)} {es : Array (Int × Value)} {ep : Nat} {tb : SetTable}
theorem ents_len {es : Array (Int × Value)} {L : List (Addr × List Key)} (e : es.toList = ents P w L) : es.size = L.length := by
  have q := congrArg List.length e
  unfold ents at q
  simpa using q
theorem Sx.fits (R : Sx P w s.heap a L es ep tb) : tb.fits es.size = true := by
  have q := R.tab.fits (by rw [List.length_map]; have := R.room; omega)
  rw [List.length_map] at q
  rw [ents_len R.rows]
  exact q
theorem Sx.at (R : Sx P w s.heap a L es ep tb) {i : Nat} {p : Addr × List Key} (h : L[i]? = some p) : es[i]? = some (hx P w p.2, Value.ref p.1) := by
  rw [← Array.getElem?_toList, R.rows]
  simp [ents, h]
theorem dummy_none (m : Nat) : ∀ (n : Nat) (p : SetTable.Probe), p.dummy = none → (nth m p n).dummy = none
  | 0, _, h => h
  | n + 1, p, h => dummy_none m n (adv m p) (by unfold adv; split <;> exact h)
theorem seek (R : Sx P w s.heap a L es ep tb) {x : Addr} {k : List Key} (kx : Kx P w s.heap k x) (hu : A.units < cLine) {n : Nat} (nf : n < 10 * SetTable.turns tb.mask)
    (n1 : way tb.mask (hx P w k) n ∉ tb.place.toList) (n2 : ∀ c, c < n → way tb.mask (hx P w k) c ∈ tb.place.toList) {Q : SetFound → Shared → Prop}
    (yes : k ∈ L.map (·.2) → Q (.there none) s) (no : k ∉ L.map (·.2) → Q (.free (way tb.mask (hx P w k) n) false) s) :
    ∀ (f c : Nat) (st : Option SetTable.Probe), st.getD (tb.probeStart (hx P w k)) = nth tb.mask (runAt tb.mask (SetTable.bits (hx P w k) % (tb.mask + 1)) (SetTable.bits (hx P w k))) c → c ≤ n → n - c < f →
      (∀ (i : Nat) p, L[i]? = some p → p.2 = k → ∃ d, c ≤ d ∧ d < n ∧ tb.place.toList[i]? = some (way tb.mask (hx P w k) d)) →
      wpAny (model P w) A (setSearchFrom a (.ref x) (hx P w k) true f st) Q E s
  | 0, c, st, _, _, hf, _ => absurd hf (Nat.not_lt_zero _)
  | f + 1, c, st, es0, hc, hf, ahead => by
    obtain ⟨ob, g, ex, dt⟩ := R.ob
    rw [setSearchFrom_succ]
    refine wpAny_bind (wpAny_setState_of g dt R.fits ?_)
    dsimp only
    refine wp_if_neg R.tab.odd ?_
    first | refine wpAny_bind (wpAny_pure ?_) | skip
    generalize hpr0 : nth tb.mask (runAt tb.mask (SetTable.bits (hx P w k) % (tb.mask + 1)) (SetTable.bits (hx P w k))) c = pr at es0
    have dm : pr.dummy = none := hpr0 ▸ dummy_none tb.mask c _ rfl
    have onw : ∀ q, nth tb.mask pr q = nth tb.mask (runAt tb.mask (SetTable.bits (hx P w k) % (tb.mask + 1)) (SetTable.bits (hx P w k))) (c + q) := fun q => by rw [← hpr0, ← nth_add]
    have slt : ∀ q, (nth tb.mask pr q).j = way tb.mask (hx P w k) (c + q) := fun q => congrArg SetTable.Probe.j (onw q)
    have hsh : ∀ (i : Nat) p, L[i]? = some p → (es[i]?.map (·.1)).getD 0 = hx P w p.2 := fun i p hp => by rw [R.at hp]; rfl
    rw [es0]
    rcases go_spec tb R.tab.asc R.tab.nodum (fun i => (es[i]?.map (·.1)).getD 0) (hx P w k) (10 * SetTable.turns tb.mask) (n - c) pr dm (by omega)
      (fun q hq => by rw [slt]; exact n2 _ (by omega)) (by rw [slt, Nat.add_sub_cancel' hc]; exact n1) with ⟨q, i, hq, hi, hh, hno, hgo⟩ | ⟨hno, hgo⟩
    · have hgo : tb.probe (fun i => (es[i]?.map (·.1)).getD 0) (hx P w k) pr = _ := hgo
      rw [hgo]
      dsimp only
      have il : i < L.length := by
        have a1 := (List.getElem?_eq_some_iff.mp hi).1
        rw [R.tab.len, List.length_map] at a1
        exact a1
      obtain ⟨p, hp⟩ : ∃ p, L[i]? = some p := ⟨_, List.getElem?_eq_getElem il⟩
      have pm : p ∈ L := List.mem_of_getElem? hp
      have main : wpAny (model P w) A (searchRest a (.ref x) (hx P w k) true f es tb (nth tb.mask pr q).j i (nth tb.mask pr (q + 1))) Q E s := by
        unfold searchRest
        rw [R.at hp]
        dsimp only
        refine wpAny_bind (wpAny_holding (wpAny_eqBool_tuple hu (R.tup p pm) kx ?_))
        refine wpAny_bind (wpAny_setState_of g dt R.fits ?_)
        dsimp only
        by_cases same : p.2 = k
        · exact wp_if_pos (by simp [same]) (wpAny_pure (yes (List.mem_map.mpr ⟨p, pm, same⟩)))
        · refine wp_if_neg (by simp [same]) ?_
          first | refine wpAny_bind (wpAny_pure ?_) | skip
          rw [sameMem]
          dsimp only
          have lv : tb.slot (nth tb.mask pr q).j = .live i := slot_live R.tab.asc hi
          simp only [if_true, lv, R.at hp]
          refine wpAny_bind (wpAny_isSame_ref_self (wpAny_bind (wpAny_pure ?_)))
          simp only [if_true]
          refine wp_if_neg (by simp [same]) ?_
          refine seek R kx hu nf n1 n2 yes no f (c + (q + 1)) _ (onw (q + 1)) (by omega) (by omega) fun i' p' h1 h2 => ?_
          obtain ⟨d, d1, d2, d3⟩ := ahead i' p' h1 h2
          suffices fwd : ¬ d ≤ c + q from ⟨d, by omega, d2, d3⟩
          intro le
          rcases Nat.lt_or_eq_of_le le with lt | eq
          · exact hno (d - c) i' (by omega) (by rw [slt, Nat.add_sub_cancel' d1]; exact d3) ((hsh i' p' h1).trans (congrArg (hx P w) h2))
          · rw [eq, ← slt] at d3
            have l2 := slot_live R.tab.asc d3
            rw [lv] at l2
            injection l2 with l2
            rw [← l2, hp] at h1
            exact same ((congrArg Prod.snd (Option.some.inj h1)).trans h2)
      by_cases ld : tb.led = true
      · refine wp_if_neg (by simp [ld]) ?_
        first | exact wpAny_bind (wpAny_pure main) | exact main
      · refine wp_if_pos (by simp [ld]) (wpAny_bind (unseen kx (fun y hy => ?_) (wp_if_neg (by decide) ?_)))
        · obtain ⟨e, he, rfl⟩ := List.mem_map.mp hy
          have he2 : e ∈ es.toList := by
            have : e ∈ es ∧ e.1 = hx P w k := by simpa using he
            simpa using this.1
          rw [R.rows] at he2
          obtain ⟨p', hp', rfl⟩ := List.mem_map.mp he2
          exact ⟨p'.2, p'.1, rfl, R.tup p' hp'⟩
        · first | exact wpAny_bind (wpAny_pure main) | exact main
    · have hgo : tb.probe (fun i => (es[i]?.map (·.1)).getD 0) (hx P w k) pr = _ := hgo
      rw [hgo]
      dsimp only
      rw [slt, Nat.add_sub_cancel' hc]
      refine wpAny_pure (no fun hm => ?_)
      obtain ⟨p', hp', ek⟩ := List.mem_map.mp hm
      obtain ⟨i', hi', e⟩ := List.getElem_of_mem hp'
      have h1 : L[i']? = some p' := by rw [List.getElem?_eq_getElem hi', e]
      obtain ⟨d, d1, d2, d3⟩ := ahead i' p' h1 ek
      exact hno (d - c) i' (by omega) (by rw [slt, Nat.add_sub_cancel' d1]; exact d3) ((hsh i' p' h1).trans (congrArg (hx P w) ek))
/-- the search as adding asks for it -/
theorem look_up (R : Sx P w s.heap a L es ep tb) {x : Addr} {k : List Key} (kx : Kx P w s.heap k x) (hu : A.units < cLine) {Q : SetFound → Shared → Prop}
    (yes : k ∈ L.map (·.2) → Q (.there none) s)
    (no : ∀ n, k ∉ L.map (·.2) → way tb.mask (hx P w k) n ∉ tb.place.toList → (∀ c, c < n → way tb.mask (hx P w k) c ∈ tb.place.toList) → Q (.free (way tb.mask (hx P w k) n) false) s) :
    wpAny (model P w) A (setSearch a (.ref x) (hx P w k) true) Q E s := by
  have rm := R.room
  have ml := R.tab.full.2.1
  obtain ⟨n, nf, n1, n2⟩ := R.tab.gap (by rw [List.length_map]; omega) (hx P w k)
  have nb : n < 100000 := by
    unfold SetTable.turns at nf
    omega
  unfold setSearch
  refine seek R kx hu nf n1 n2 yes (fun h => no n h n1 n2) 100000 0 none rfl (Nat.zero_le _) (by omega) fun i p hp ek => ?_
  have h1 : (L.map fun p => hx P w p.2)[i]? = some (hx P w k) := by rw [List.getElem?_map, hp, ← ek]; rfl
  have h2 : i < tb.place.toList.length := by
    rw [R.tab.len]
    exact (List.getElem?_eq_some_iff.mp h1).1
  have h3 := List.getElem?_eq_getElem h2
  obtain ⟨d, d1, d2⟩ := R.tab.ahead n1 h1 h3
  exact ⟨d, Nat.zero_le _, d1, by rw [h3, d2]⟩
end
end Mi.B
end
section
set_option linter.all false
set_option maxRecDepth 100000
set_option Elab.async false
set_option maxHeartbeats 3200000
/-! Sets of tuples of ints and texts: one put in; the whole laid anew. -/
namespace Mi.B
open PySem PySem.Spec PyProof.Rows L2
section
variable {P : Program} {w : World} {A : Around} {E : Value → Shared → Prop} {s : Shared}
theorem kx_but {h h' : Heap} {k : List Key} {a b : Addr} {ob : Obj} {es : Array (Int × Value)} {ep : Nat} {tb : SetTable} (x : Kx P w h k b) (g : h.get? a = some ob) (dt : ob.data = .set es ep tb) (sb : Heap.SameBut a h h') : Kx P w h' k b := by
  obtain ⟨o2, its, n, g2, c2, d2, i2⟩ := x
  refine ⟨o2, its, n, (sb.2 b fun e => ?_).trans g2, c2, d2, i2⟩
  subst e
  rw [g] at g2
  cases g2
  rw [dt] at d2
  cases d2
theorem kx_on {h h' : Heap} {k : List Key} {b : Addr} (x : Kx P w h k b) (kp : ∀ c o, h.get? c = some o → h'.get? c = some o) : Kx P w h' k b := by
  obtain ⟨o2, its, n, g2, r⟩ := x
  exact ⟨o2, its, n, kp b o2 g2, r⟩
/-- the entries in another order -/
theorem ents_order (L : List (Addr × List Key)) (es : Array (Int × Value)) (od : Array Nat) (hr : es.toList = ents P w L) (hp : od.toList.Perm (List.range L.length)) :
    ∃ L2, (od.filterMap (es[·]?)).toList = ents P w L2 ∧ L2.Perm L ∧ (L2.map fun p => hx P w p.2) = od.toList.map fun i => (es.map (·.1)).getD i 0 := by
  have at1 : ∀ i (hi : i < L.length), es[i]? = some (hx P w L[i].2, Value.ref L[i].1) := fun i hi => by
    rw [← Array.getElem?_toList, hr]
    simp [ents, hi]
  have go : ∀ l : List Nat, (∀ i ∈ l, i < L.length) → l.filterMap (fun i => es[i]?) = ents P w (l.filterMap fun i => L[i]?) ∧ ((l.filterMap fun i => L[i]?).map fun p => hx P w p.2) = l.map fun i => (es.map (·.1)).getD i 0 := by
    intro l
    induction l with
    | nil => exact fun _ => ⟨rfl, rfl⟩
    | cons i l ih =>
      intro hl
      have hi := hl i List.mem_cons_self
      obtain ⟨e1, e2⟩ := ih fun j hj => hl j (List.mem_cons_of_mem _ hj)
      have e3 := List.getElem?_eq_getElem hi
      refine ⟨?_, ?_⟩
      · rw [List.filterMap_cons_some (at1 i hi), List.filterMap_cons_some (f := fun i => L[i]?) e3, e1]
        rfl
      · rw [List.filterMap_cons_some (f := fun i => L[i]?) e3, List.map_cons, List.map_cons, e2]
        congr 1
        have e4 : (es.map (·.1))[i]? = some (hx P w L[i].2) := by rw [Array.getElem?_map, at1 i hi]; rfl
        rw [Array.getD_eq_getD_getElem?, e4]
        rfl
  obtain ⟨e1, e2⟩ := go od.toList fun i hi => List.mem_range.mp (hp.mem_iff.mp hi)
  refine ⟨od.toList.filterMap fun i => L[i]?, by simpa using e1, (hp.filterMap _).trans ?_, e2⟩
  have all : ∀ n, n ≤ L.length → (List.range n).filterMap (fun i => L[i]?) = L.take n := by
    intro n
    induction n with
    | zero => exact fun _ => rfl
    | succ n ih =>
      intro hn
      rw [List.range_succ, List.filterMap_append, ih (Nat.le_of_succ_le hn), List.take_succ, List.filterMap_cons_some (f := fun i => L[i]?) (List.getElem?_eq_getElem hn), List.getElem?_eq_getElem hn]
      rfl
  rw [all L.length (Nat.le_refl _), List.take_length]
variable {a : Addr} {L : List (Addr × List Key)} {es : Array (Int × Value)} {ep : Nat} {tb : SetTable}
/-- laid anew, larger -/
theorem relay {ob : Obj} {hs : List Int} (g : s.heap.get? a = some ob) (ex : ob.ExactSet) (dt : ob.data = .set es ep tb) (rows : es.toList = ents P w L) (T : Tb tb hs) (hh : hs.length = L.length) (hm : L.length ≤ tb.mask)
    (nd : (L.map (·.2)).Nodup) (tup : ∀ p ∈ L, Kx P w s.heap p.2 p.1) (ld : w.params.followText "set-order" = true ∨ tb.led = true) {wanted m : Nat}
    (hw : SetTable.sizeAbove wanted = m + 1) (F : Full m) (hn : L.length * 5 < m * 3) {Q : Unit → Shared → Prop}
    (q : ∀ h' L' es' ep' tb', Heap.SameBut a s.heap h' → Sx P w h' a L' es' ep' tb' → L'.Perm L → Q () { s with heap := h' }) : wpAny (model P w) A (setRelay a wanted) Q E s := by
  have sz := ents_len rows
  have ft : tb.fits es.size = true := by
    have := T.fits (by rw [hh]; exact hm)
    rw [hh] at this
    rw [sz]
    exact this
  have mx := F.2.1
  obtain ⟨tb', od, e, pm, T', em, el, _⟩ := relaid_all tb (hs := es.map (·.1)) hw F (by rw [Array.size_map, sz]; omega)
  rw [Array.size_map, sz] at pm
  obtain ⟨L2, r1, r2, r3⟩ := ents_order L es od rows pm
  rw [← r3] at T'
  have s2 : (od.filterMap (es[·]?)).size = es.size := by rw [ents_len r1, r2.length_eq, sz]
  have ln : (od.filterMap (es[·]?)).size ≤ sizeLine := by rw [s2, sz, sizeLine_eq]; omega
  rw [setRelay_eq]
  refine wpAny_bind (wpAny_setState_of g dt ft ?_)
  dsimp only
  refine wp_if_neg (by rw [hw, sizeLine_eq]; omega) ?_
  first | refine wpAny_bind (wpAny_pure ?_) | skip
  rw [e]
  dsimp only
  refine wpAny_bind (wp_if_neg (by rw [s2]; simp) ?_)
  first | refine wpAny_bind (wpAny_pure ?_) | skip
  refine wpAny_pure ?_
  dsimp only
  generalize hes : od.filterMap (es[·]?) = es2 at *
  refine wpAny_storeSet_of g dt ?_ ln
  have sb := Heap.SameBut.update s.heap a (Obj.putSet es2 tb')
  refine q _ L2 es2 (ep + 1) tb' sb { ob := ⟨_, store_at g dt, ex, rfl⟩, rows := r1, tab := T', nd := (r2.map (·.2)).nodup_iff.mpr nd, tup := fun p hp => kx_but (tup p (r2.mem_iff.mp hp)) g dt sb, led := by rw [el]; exact ld, room := by rw [r2.length_eq, em]; exact hn } r2
theorem grow_ok {m n : Nat} (F : Full m) (lo : n * 5 < m * 3) (hi : (n + 1) * 5 ≥ m * 3) (few : n + 1 ≤ 1000) :
    ∃ m', SetTable.sizeAbove (SetTable.grown (n + 1)) = m' + 1 ∧ Full m' ∧ (n + 1) * 5 < m' * 3 := by
  rcases F.2.2.1 with e | e | e | e | e
  · have : n = 4 := by omega
    subst this
    exact ⟨31, size_20, full31, by decide⟩
  · have : n = 18 := by omega
    subst this
    exact ⟨127, size_76, full127, by decide⟩
  · have : n = 76 := by omega
    subst this
    exact ⟨511, size308, full511, by decide⟩
  · have : n = 306 := by omega
    subst this
    exact ⟨2047, size2048, full2047, by decide⟩
  · omega
/-- one put in -/
theorem put_in (R : Sx P w s.heap a L es ep tb) {x : Addr} {k : List Key} (kx : Kx P w s.heap k x) (hu : A.units < cLine) (few : k ∉ L.map (·.2) → L.length + 1 ≤ 1000) {Q : Bool → Shared → Prop}
    (q : ∀ b h' L' es' ep' tb', Heap.SameBut a s.heap h' → Sx P w h' a L' es' ep' tb' → (k ∈ L.map (·.2) → L' = L) → (k ∉ L.map (·.2) → L'.Perm ((x, k) :: L)) → Q b { s with heap := h' }) :
    wpAny (model P w) A (setAddHashed a (.ref x) (hx P w k)) Q E s := by
  obtain ⟨ob, g, ex, dt⟩ := R.ob
  have sz := ents_len R.rows
  have rm := R.room
  have ml := R.tab.full.2.1
  unfold setAddHashed
  refine wpAny_holding ?_
  rw [show (100000 : Nat) = 99999 + 1 from rfl, setAddHashedIn_succ]
  refine wpAny_bind (wpAny_setState_of g dt R.fits ?_)
  dsimp only
  refine wp_if_neg (by simp [byScan, Value.scannable]) ?_
  first | refine wpAny_bind (wpAny_pure ?_) | skip
  refine wpAny_bind (look_up R kx hu (fun hm => wpAny_pure (q false s.heap L es ep tb (Heap.SameBut.refl a s.heap) R (fun _ => rfl) fun z => absurd hm z)) fun n hm n1 n2 => ?_)
  have few := few hm
  dsimp only
  refine wpAny_bind (wpAny_setState_of g dt R.fits ?_)
  dsimp only
  obtain ⟨p, hp0, pl, p2, T, fl⟩ := R.tab.more n1 n2
  have k1 : (tb.put (way tb.mask (hx P w k) n)).1.mask = tb.mask := rfl
  have k2 : (tb.put (way tb.mask (hx P w k) n)).1.led = tb.led := rfl
  generalize tb.put (way tb.mask (hx P w k) n) = pt at p2 T fl k1 k2 ⊢
  obtain ⟨t1, p'⟩ := pt
  dsimp only at p2 T fl k1 k2 ⊢
  subst p2
  clear hp0
  rw [List.length_map] at pl fl
  have pm := put_perm L p' (x, k)
  have ln : (L.take p' ++ (x, k) :: L.drop p').length = L.length + 1 := pm.length_eq
  have hin : (SetTable.insertAt es p' (hx P w k, Value.ref x)).toList = ents P w (L.take p' ++ (x, k) :: L.drop p') := by
    rw [SetTable.toList_insertAt, R.rows]
    simp [ents, List.map_take, List.map_drop]
  have hhs : ((L.map fun p => hx P w p.2).take p' ++ hx P w k :: (L.map fun p => hx P w p.2).drop p') = (L.take p' ++ (x, k) :: L.drop p').map fun p => hx P w p.2 := by
    simp [List.map_take, List.map_drop]
  rw [hhs] at T
  have nd1 : ((L.take p' ++ (x, k) :: L.drop p').map (·.2)).Nodup := (pm.map (·.2)).nodup_iff.mpr (List.nodup_cons.mpr ⟨hm, R.nd⟩)
  have s1 := ents_len hin
  rw [ln] at s1
  generalize SetTable.insertAt es p' (hx P w k, Value.ref x) = es1 at hin s1 ⊢
  generalize L.take p' ++ (x, k) :: L.drop p' = L1 at pm ln T nd1 hin
  -- whatever is known of the hash
  have rest : ∀ t2 : SetTable, t2.place = t1.place → t2.dummies = t1.dummies → t2.mask = t1.mask → t2.led = t1.led →
      wpAny (model P w) A (do
        storeSet a es1 t2
        if !false && t2.tooFull then setRelay a (SetTable.grown (es.size + 1))
        return true) Q E s := fun t2 c1 c2 c3 c4 => by
    have T2 : Tb t2 (L1.map fun p => hx P w p.2) := by
      refine { asc := by rw [c1]; exact T.asc, nodum := by rw [c2]; exact T.nodum, cnt := by rw [c1]; exact T.cnt, full := by rw [c3]; exact T.full, inside := by rw [c1, c3]; exact T.inside, path := ?_ }
      rw [c1, c3]
      exact T.path
    have ld2 : w.params.followText "set-order" = true ∨ t2.led = true := by rw [c4, k2]; exact R.led
    have fl2 : t2.fill = L.length + 1 := by
      rw [← fl]
      unfold SetTable.fill
      rw [c1, c2]
    refine wpAny_bind (wpAny_storeSet_of g dt ?_ (by rw [s1, sizeLine_eq]; omega))
    have sb := Heap.SameBut.update s.heap a (Obj.putSet es1 t2)
    have g1 := store_at (es' := es1) (t' := t2) g dt
    generalize s.heap.update a (Obj.putSet es1 t2) = h1 at sb g1 ⊢
    have tup1 : ∀ p ∈ L1, Kx P w h1 p.2 p.1 := fun p hp => by
      rcases List.mem_cons.mp (pm.mem_iff.mp hp) with e | hp
      · rw [e]
        exact kx_but kx g dt sb
      · exact kx_but (R.tup p hp) g dt sb
    by_cases full : t2.tooFull = true
    · have big : (L.length + 1) * 5 ≥ tb.mask * 3 := by
        have z := full
        unfold SetTable.tooFull at z
        rw [decide_eq_true_eq, fl2, c3, k1] at z
        exact z
      obtain ⟨m', w1, w2, w3⟩ := grow_ok R.tab.full rm big few
      have go : wpAny (model P w) A (setRelay a (SetTable.grown (L.length + 1))) (fun _ s' => wpAny (model P w) A (pure true) Q E s') E { s with heap := h1 } := by
        refine relay (s := { s with heap := h1 }) g1 ex rfl hin T2 (by rw [List.length_map]) (by rw [ln, c3, k1]; omega) nd1 tup1 ld2 w1 w2 (by rw [ln]; exact w3) fun h2 L2 es2 ep2 tb2 sb2 R2 pm2 => ?_
        exact wpAny_pure (q true h2 L2 es2 ep2 tb2 (sb.trans sb2) R2 (fun z => absurd z hm) fun _ => pm2.trans pm)
      rw [sz]
      first
        | exact wpAny_bind (wp_if_pos (by simp [full]) go)
        | exact wp_if_pos (by simp [full]) (wpAny_bind go)
    · have small : (L.length + 1) * 5 < tb.mask * 3 := by
        have z := full
        unfold SetTable.tooFull at z
        rw [decide_eq_true_eq, fl2, c3, k1] at z
        omega
      have fin := q true h1 L1 es1 (ep + 1) t2 sb { ob := ⟨_, g1, ex, rfl⟩, rows := hin, tab := T2, nd := nd1, tup := tup1, led := ld2, room := by rw [ln, c3, k1]; exact small } (fun z => absurd z hm) fun _ => pm
      first
        | exact wp_if_neg (by simp [full]) (wpAny_pure fin)
        | exact wpAny_bind (wp_if_neg (by simp [full]) (wpAny_pure (wpAny_pure fin)))
  by_cases pln : t1.plain = true
  · first
      | (refine wpAny_bind (wp_if_pos pln (hash_pair kx fun y => ?_)); cases y)
      | (refine wp_if_pos pln (wpAny_bind (hash_pair kx fun y => ?_)); cases y)
    · exact rest { t1 with plain := false } rfl rfl rfl rfl
    · exact rest t1 rfl rfl rfl rfl
  · first
      | exact wpAny_bind (wp_if_neg pln (wpAny_pure (rest t1 rfl rfl rfl rfl)))
      | exact wp_if_neg pln (wpAny_bind (wpAny_pure (rest t1 rfl rfl rfl rfl)))
      | exact wp_if_neg pln (rest t1 rfl rfl rfl rfl)
end
end Mi.B
end
section
set_option linter.all false
set_option maxRecDepth 100000
set_option Elab.async false
set_option maxHeartbeats 3200000
/-! set(xs) of a list of tuples of ints and texts. -/
namespace Mi.B
open PySem PySem.Spec PyProof.Rows L2
theorem pigeon {α : Type} [DecidableEq α] : ∀ (l D : List α), l.Nodup → (∀ x ∈ l, x ∈ D) → l.length ≤ D.length
  | [], _, _, _ => Nat.zero_le _
  | x :: l, D, h, hs => by
    have h := List.nodup_cons.mp h
    have i1 := pigeon l (D.erase x) h.2 fun y hy => (List.mem_erase_of_ne fun e => by rw [e] at hy; exact h.1 hy).2 (hs y (List.mem_cons_of_mem _ hy))
    have i2 := List.length_erase_of_mem (hs x List.mem_cons_self)
    have i3 := List.length_pos_of_mem (hs x List.mem_cons_self)
    simp only [List.length_cons]
    omega
abbrev Row := Addr × List Key
/-- what the set has of the first i -/
structure Has (ks : List Row) (i : Nat) (L : List Row) : Prop where
  sub : ∀ p ∈ L, p ∈ ks.take i
  all : ∀ p ∈ ks.take i, p.2 ∈ L.map (·.2)
theorem has0 (ks : List Row) : Has ks 0 [] := ⟨fun p h => (by cases h), fun p h => (by simp at h)⟩
theorem take_one {ks : List Row} {i : Nat} {x : Row} (h : ks[i]? = some x) : ks.take (i + 1) = ks.take i ++ [x] := by
  rw [List.take_add_one, h]
  rfl
theorem Has.old {ks L : List Row} {i : Nat} {x : Row} (H : Has ks i L) (h : ks[i]? = some x) (hm : x.2 ∈ L.map (·.2)) : Has ks (i + 1) L := by
  refine ⟨fun p hp => ?_, fun p hp => ?_⟩
  · rw [take_one h]
    exact List.mem_append_left _ (H.sub p hp)
  · rw [take_one h, List.mem_append, List.mem_singleton] at hp
    rcases hp with hp | rfl
    · exact H.all p hp
    · exact hm
theorem Has.new {ks L L' : List Row} {i : Nat} {x : Row} (H : Has ks i L) (h : ks[i]? = some x) (pm : L'.Perm (x :: L)) : Has ks (i + 1) L' := by
  refine ⟨fun p hp => ?_, fun p hp => ?_⟩
  · rw [take_one h, List.mem_append, List.mem_singleton]
    rcases List.mem_cons.mp (pm.mem_iff.mp hp) with e | hp
    · exact .inr e
    · exact .inl (H.sub p hp)
  · rw [(pm.map (·.2)).mem_iff, List.map_cons, List.mem_cons]
    rw [take_one h, List.mem_append, List.mem_singleton] at hp
    rcases hp with hp | rfl
    · exact .inr (H.all p hp)
    · exact .inl rfl
section
variable {P : Program} {w : World} {A : Around} {E : Value → Shared → Prop} {s : Shared}
theorem Sx.on {h h' : Heap} {a : Addr} {L : List Row} {es : Array (Int × Value)} {ep : Nat} {tb : SetTable} (R : Sx P w h a L es ep tb) (ka : ∀ o, h.get? a = some o → h'.get? a = some o) (kt : ∀ p ∈ L, Kx P w h' p.2 p.1) : Sx P w h' a L es ep tb :=
  { ob := R.ob.imp fun o x => ⟨ka o x.1, x.2⟩, rows := R.rows, tab := R.tab, nd := R.nd, tup := kt, led := R.led, room := R.room }
abbrev newSet (w : World) : Obj := { cls := .type "set", dict := none, data := .set #[] 0 (.fresh 0 0 (!w.params.followText "set-order")) }
theorem sx0 {h : Heap} {a : Addr} (g : h.get? a = some (newSet w)) : Sx P w h a [] #[] 0 (.fresh 0 0 (!w.params.followText "set-order")) where
  ob := ⟨_, g, ⟨rfl, rfl, rfl⟩, rfl⟩
  rows := rfl
  tab := { asc := List.Pairwise.nil, nodum := rfl, cnt := rfl, full := full7, inside := (fun z hz => by cases hz), path := (fun i g j hi => by simp at hi) }
  nd := List.nodup_nil
  tup := fun p hp => by cases hp
  led := by
    cases hf : w.params.followText "set-order" with
    | true => exact .inl rfl
    | false => exact .inr rfl
  room := by show 0 * 5 < 7 * 3; decide
/-- the items taken in one by one -/
theorem feed {I : Addr} {fp wr : List Addr} {G : Array GenState → Array GenState → Prop} {n : Nat} {Pv : Nat → Value → Prop} {St : Nat → Shared → Prop} {R : Result → Shared → Prop}
    (W : WalksS P w A.in1 I fp wr G n Pv St) (S : Addr) (fresh : S ∉ fp) (ks : List Row) (hn : n = ks.length) (D : List (List Key)) (few : D.length ≤ 1000) (inD : ∀ p ∈ ks, p.2 ∈ D) (val : ∀ i v, Pv i v → ∃ p, ks[i]? = some p ∧ v = .ref p.1)
    (h0 : Heap) (kk : ∀ p ∈ ks, Kx P w h0 p.2 p.1) (S0 : h0.get? S = none) (w0 : ∀ b ∈ wr, h0.get? b = none) (hu : A.in1.units < cLine) :
    ∀ (k i : Nat) (s : Shared), n - i = k → i ≤ n → St i s → (∀ b o, h0.get? b = some o → s.heap.get? b = some o) → (∃ L es ep tb, Sx P w s.heap S L es ep tb ∧ Has ks i L) →
      (∀ s' L es ep tb, Moved (S :: wr) G s s' → Sx P w s'.heap S L es ep tb → Has ks n L → (∀ b o, h0.get? b = some o → s'.heap.get? b = some o) → R (.ok (.ret .none)) s') →
      codeAny (model P w) A (.builtin "set.update.loop" ⟨[.ref S, .ref I], []⟩) R s := by
  have Sw : S ∉ wr := fun h => fresh (W.sub _ h)
  have wide : ∀ b ∈ wr, b ∈ S :: wr := fun b hb => List.mem_cons_of_mem _ hb
  have onto : ∀ {s s' : Shared}, Moved wr G s s' → (∀ b o, h0.get? b = some o → s.heap.get? b = some o) → ∀ b o, h0.get? b = some o → s'.heap.get? b = some o := fun mv kp b o e =>
    mv.heap b o (fun hb => by rw [w0 b hb] at e; cases e) (kp b o e)
  intro k
  induction k with
  | zero =>
    intro i s hk hi st kp ⟨L, es, ep, tb, R0, H⟩ fin
    obtain rfl : i = n := by omega
    refine codeAny_builtin F.entry_set_update_loop ?_
    rw [Around.under_plainId F.plain_set_update_loop _]
    show wpAny _ A.in1 (pyNext (.ref I) >>= _) _ _ s
    refine wpAny_bind (W.done s _ _ st fun s' mv => ?_)
    show wpAny _ A.in1 (ret Value.none) _ _ s'
    have kp' := onto mv kp
    exact wpAny_pure (fin s' L es ep tb (mv.mono wide) (R0.on (fun o e => mv.heap S o Sw e) fun p hp => kx_on (kk p (List.mem_of_mem_take (H.sub p hp))) kp') H kp')
  | succ k ih =>
    intro i s hk hi st kp ⟨L, es, ep, tb, R0, H⟩ fin
    have lt : i < n := by omega
    refine codeAny_builtin F.entry_set_update_loop ?_
    rw [Around.under_plainId F.plain_set_update_loop _]
    show wpAny _ A.in1 (pyNext (.ref I) >>= _) _ _ s
    refine wpAny_bind (W.item i s _ _ lt st fun v s' pv st' mv => ?_)
    obtain ⟨p, hp, rfl⟩ := val i v pv
    have pm := List.mem_of_getElem? hp
    have kp' := onto mv kp
    have inks : ∀ p ∈ L, p ∈ ks := fun p hp => List.mem_of_mem_take (H.sub p hp)
    have R1 : Sx P w s'.heap S L es ep tb := R0.on (fun o e => mv.heap S o Sw e) fun q hq => kx_on (kk q (inks q hq)) kp'
    have kx : Kx P w s'.heap p.2 p.1 := kx_on (kk p pm) kp'
    show wpAny _ A.in1 (holding [Value.ref p.1] (setAdd S (.ref p.1)) >>= _) _ _ s'
    refine wpAny_bind (wpAny_holding ?_)
    unfold setAdd
    refine wpAny_holding (wpAny_bind (wpAny_pyHash_tuple hu kx ?_))
    refine put_in (s := { s' with toks := s'.toks + (p.2.length + 1) }) R1 kx hu (fun c => ?_) fun b h' L' es' ep' tb' sb R2 c1 c2 => ?_
    · have := pigeon (p.2 :: L.map (·.2)) D (List.nodup_cons.mpr ⟨c, R1.nd⟩) fun y hy => by
        rcases List.mem_cons.mp hy with rfl | hy
        · exact inD p pm
        · obtain ⟨q, hq, rfl⟩ := List.mem_map.mp hy
          exact inD q (inks q hq)
      simp only [List.length_cons, List.length_map] at this
      omega
    · have H' : Has ks (i + 1) L' := by
        by_cases c : p.2 ∈ L.map (·.2)
        · rw [c1 c]
          exact H.old hp c
        · exact H.new hp (c2 c)
      have kp2 : ∀ b o, h0.get? b = some o → h'.get? b = some o := fun b o e => (sb.2 b fun z => by rw [z, S0] at e; cases e).trans (kp' b o e)
      refine wpAny_pure ⟨plainId_quiet F.plain_set_update_loop _, ih (i + 1) _ (by omega) lt (W.frame _ s' _ _ st' (Nat.le_add_right _ _) fun b hb o e => ?_) kp2 ⟨L', es', ep', tb', R2, H'⟩ fun s2 L2 es2 ep2 tb2 mv2 R3 H2 kp3 => ?_⟩
      · rw [sb.2 b fun h : b = S => fresh (h ▸ hb)]
        exact e
      · refine fin s2 L2 es2 ep2 tb2 (Moved.trans W.gtrans ((mv.mono wide).then_heap (Nat.le_add_right _ _) fun b o hb e => ?_) mv2) R3 H2 kp3
        rw [sb.2 b fun h : b = S => hb (h ▸ List.mem_cons_self)]
        exact e
/-- set(xs) -/
theorem make {l : Addr} {its : Array Value} (ks : List Row) {Q : Value → Shared → Prop} (hh : A.handled = none) (hl : s.heap.IsList l its) (hit : its.toList = ks.map fun p => Value.ref p.1)
    (kk : ∀ p ∈ ks, Kx P w s.heap p.2 p.1) (D : List (List Key)) (few : D.length ≤ 1000) (inD : ∀ p ∈ ks, p.2 ∈ D) (hu : A.units + 3 < cLine)
    (q : ∀ (h' : Heap) (tk : Nat) L es ep tb, Sx P w h' s.heap.objs.size L es ep tb → Has ks ks.length L → (∀ b o, s.heap.get? b = some o → h'.get? b = some o) → Q (.ref s.heap.objs.size) { s with heap := h', toks := tk }) :
    wpAny (model P w) A (PySem.call (.type "set") [.ref l]) Q E s := by
  have cnt : its.size = ks.length := by
    have := congrArg List.length hit
    simpa using this
  obtain ⟨_, _, hmro⟩ := F.called_set.mro
  have hmade := F.called_set.made
  have hsub := F.called_set.sub
  refine wpAny_call (codeAny_of_tree ?_)
  show wpAny _ _ (callAny (.type "set") _) _ _ _
  refine wpAny_pure ⟨Code.quiet_builtin _ (by decide +kernel), codeAny_builtin F.entry_type_call ?_⟩
  rw [Around.under_plain (weight_type_call_type "set" [.ref l] []) rfl]
  have n1 := F.called_set.notType
  have n2 := F.called_set.canCreate
  have n3 := F.typeCall_set_1 (.ref l)
  repeat (any_goals (first | assumption | wp_step))
  refine codeAny_mono (code_set_led1 (.ref l) (E := E) (Q₁ := fun v s1 => v = .ref s.heap.objs.size ∧ s1 = { s with heap := s.heap.push (newSet w) }) ⟨rfl, rfl⟩) fun r s1 hr => ?_
  rcases r with e | fl
  · exact hr
  cases fl with
  | ret v =>
    obtain ⟨rfl, rfl⟩ := hr
    have gS : (s.heap.push (newSet w)).get? s.heap.objs.size = some (newSet w) := Heap.get?_push_size _ rfl
    have tyS : Shared.TypeIs { s with heap := s.heap.push (newSet w) } (.ref s.heap.objs.size) "set" := ⟨_, gS, rfl⟩
    have i1 := F.called_set.init.lookup
    have i2 := F.called_set.init.bind (.ref s.heap.objs.size)
    repeat (any_goals (first | assumption | wp_step))
    refine codeAny_mono (codeAny_call_builtin (R := wants (fun r s2 => r = .none ∧ ∃ h' tk L es ep tb, s2 = { s with heap := h', toks := tk } ∧ Sx P w h' s.heap.objs.size L es ep tb ∧ Has ks ks.length L ∧
        (∀ b o, s.heap.get? b = some o → h'.get? b = some o)) E) F.called_set.init.plain F.entry_set_init (check_set_init_1 tyS ?_)) fun r2 s2 hr2 => ?_
    · obtain ⟨⟨c1, c2, c3, c4⟩, gl, hc, nl, hd⟩ := hl
      simp only at hc hd
      subst hc
      subst hd
      have gl' : (s.heap.push (newSet w)).get? l = some { cls := .type "list", dict := c2, data := .seq its nl, slots := c4 } := Heap.get?_push_of_some _ gl
      have z1 := F.sub_list_set
      have z2 := F.sub_list_frozenset
      have z3 : (Value.type "list" == Value.type "dict") = false := by decide
      have hl1 : (s.heap.push (newSet w)).IsList l its := ⟨_, gl', rfl, nl, rfl⟩
      unfold Builtin.«set.__init__» noKeywords Builtin.Frozenset.updateFrom
      generalize hPI : pyIter = PI
      wp_walk
      subst hPI
      refine wpAny_pyIter_list hl1 (wpAny_bind (wpAny_runValue ?_))
      have lS : l < s.heap.objs.size := Heap.lt_size gl
      have hh3 : A.in1.in1.in1.handled = none := by simp [hh]
      have neI : l ≠ (s.heap.push (newSet w)).objs.size := by
        rw [Heap.size_push]
        exact Nat.ne_of_lt (Nat.lt_succ_of_lt lS)
      have notin : s.heap.objs.size ∉ [(s.heap.push (newSet w)).objs.size, l] := by
        rw [Heap.size_push]
        intro h
        rcases List.mem_cons.mp h with h | h
        · exact absurd h (Nat.ne_of_lt (Nat.lt_succ_self _))
        · exact absurd (List.mem_singleton.mp h) (Nat.ne_of_gt lS)
      have val : ∀ (i : Nat) (v : Value), its[i]? = some v → ∃ p, ks[i]? = some p ∧ v = .ref p.1 := fun i v hv => by
        rw [← Array.getElem?_toList, hit, List.getElem?_map] at hv
        obtain ⟨p, hp, e⟩ := Option.map_eq_some_iff.mp hv
        exact ⟨p, hp, e.symm⟩
      have none_at : ∀ b, s.heap.objs.size ≤ b → s.heap.get? b = none := fun b hb => by
        cases hq : s.heap.get? b with
        | none => rfl
        | some o => exact absurd (Heap.lt_size hq) (Nat.not_lt.mpr hb)
      refine feed ((Walks.list hh3 _ l neI its).toS) s.heap.objs.size notin ks cnt D few inD val s.heap kk (none_at _ (Nat.le_refl _)) (fun b hb => none_at b (by
          rw [List.mem_singleton.mp hb, Heap.size_push]
          exact Nat.le_succ _)) hu (its.size - 0) 0 _ rfl (Nat.zero_le _)
        ⟨⟨_, Heap.get?_push_size _ rfl, rfl, rfl⟩, (hl1.push _)⟩ (fun b o e => Heap.get?_push_of_some _ (Heap.get?_push_of_some _ e)) ⟨[], #[], 0, _, sx0 (Heap.get?_push_of_some _ gS), has0 ks⟩ ?_
      intro s' L es ep tb mv R1 H kp
      obtain ⟨h', g2, d2, tk, o2⟩ := s'
      obtain rfl : g2 = s.gens := mv.gens
      obtain rfl : d2 = s.drawn := mv.drawn
      obtain rfl : o2 = s.os := mv.os
      show wpAny _ _ _ _ _ _
      refine wpAny_pure ?_
      show wpAny _ _ (ret Value.none) _ _ _
      rw [cnt] at H
      exact wpAny_pure ⟨rfl, h', tk, L, es, ep, tb, rfl, R1, H, kp⟩
    · rcases r2 with e | fl2
      · exact hr2
      cases fl2 with
      | ret v2 =>
        obtain ⟨rfl, h', tk, L, es, ep, tb, rfl, R1, H, kp⟩ := hr2
        repeat (any_goals (first | assumption | wp_step))
        exact q _ _ _ _ _ _ R1 H kp
      | _ => exact hr2.elim
  | _ => exact hr.elim
end
end Mi.B
end
section
set_option linter.all false
set_option maxRecDepth 100000
set_option Elab.async false
set_option maxHeartbeats 3200000
/-! sorted(set(xs)) of a list of (int, text) tuples. -/
namespace Mi.B
open PySem PySem.Spec PyProof.Rows L2
open PySem.W (dataLe dataLt EachIs AllAlike Sortable alike alikeAll)
/-! ### pairs -/
def kq (q : Q2) : List Key := [.inl q.1, .inr ⟨q.2.toArray⟩]
def vq (q : Q2) : List V := [.int q.1, .str ⟨q.2.toArray⟩]
def pq (q : Q2) : PyData := .tuple [.int q.1, .str ⟨q.2.toArray⟩]
theorem kq_inj {p q : Q2} (h : kq p = kq q) : p = q := by
  simp only [kq, List.cons.injEq, Sum.inl.injEq, Sum.inr.injEq, and_true] at h
  have h2 : p.2.toArray = q.2.toArray := by
    have := h.2
    injection this
  exact Prod.ext h.1 (by simpa using h2)
theorem pq_le : dataLe false pq = leQ := by
  funext p q
  show (!dataLt (pq q) (pq p)) = leQ p q
  unfold pq
  rw [PySem.W.dataLt_pair (by simp [alike]) (by simp [alike]), PySem.W.dataLt_int, PySem.W.dataLt_str]
  simp only [PyData.eqv]
  unfold leQ
  by_cases h1 : q.1 = p.1
  · have h3 : ¬ p.1 < q.1 := by omega
    by_cases h4 : q.2 = p.2
    · simp [h1, h4]
    · have h5 : ((⟨q.2.toArray⟩ : Str) == ⟨p.2.toArray⟩) = false := by rw [str_beq]; simpa using h4
      simp [h1, h5]
  · have h2 : ¬ p.1 = q.1 := fun e => h1 e.symm
    have e1 : (q.1 == p.1) = false := by simpa using h1
    by_cases h3 : p.1 < q.1
    · have : ¬ q.1 < p.1 := by omega
      simp [e1, h2, h3, this]
    · have : q.1 < p.1 := by omega
      simp [e1, h2, h3, this]
theorem leQ_iff {a b : Q2} : leQ a b = true ↔ a.1 < b.1 ∨ (a.1 = b.1 ∧ ¬ b.2 < a.2) := by
  simp [leQ]
theorem leQ_total (a b : Q2) : (leQ a b || leQ b a) = true := by
  rw [Bool.or_eq_true, leQ_iff, leQ_iff]
  rcases Int.lt_trichotomy a.1 b.1 with h | h | h
  · exact .inl (.inl h)
  · rcases List.le_total a.2 b.2 with h2 | h2
    · exact .inl (.inr ⟨h, h2⟩)
    · exact .inr (.inr ⟨h.symm, h2⟩)
  · exact .inr (.inl h)
theorem leQ_trans (a b c : Q2) (h1 : leQ a b = true) (h2 : leQ b c = true) : leQ a c = true := by
  rw [leQ_iff] at h1 h2 ⊢
  rcases h1 with h1 | ⟨h1, g1⟩ <;> rcases h2 with h2 | ⟨h2, g2⟩
  · exact .inl (by omega)
  · exact .inl (by omega)
  · exact .inl (by omega)
  · exact .inr ⟨by omega, List.le_trans (l₁ := a.2) (l₂ := b.2) (l₃ := c.2) g1 g2⟩
theorem leQ_anti (a b : Q2) (h1 : leQ a b = true) (h2 : leQ b a = true) : a = b := by
  rw [leQ_iff] at h1 h2
  rcases h1 with h1 | ⟨h1, g1⟩ <;> rcases h2 with h2 | ⟨h2, g2⟩
  · omega
  · omega
  · omega
  · exact Prod.ext h1 (List.le_antisymm (as := a.2) (bs := b.2) g1 g2)
theorem mem_dd {x : Q2} : ∀ {l : List Q2}, x ∈ ddQ l ↔ x ∈ l
  | [] => Iff.rfl
  | y :: l => by
    unfold ddQ
    split
    · rename_i h
      rw [mem_dd, List.mem_cons]
      exact ⟨.inr, fun z => z.elim (fun e => e ▸ h) id⟩
    · rw [List.mem_cons, List.mem_cons, mem_dd]
theorem nd_dd : ∀ (l : List Q2), (ddQ l).Nodup
  | [] => List.nodup_nil
  | y :: l => by
    unfold ddQ
    split
    · exact nd_dd l
    · rename_i h
      exact List.nodup_cons.mpr ⟨fun z => h (mem_dd.mp z), nd_dd l⟩
abbrev Rw := Addr × Q2
def keyed (L : List Rw) : List Row := L.map fun p => (p.1, kq p.2)
theorem keyed_of {ks : List Rw} : ∀ {L : List Row}, (∀ p ∈ L, p ∈ keyed ks) → ∃ L0 : List Rw, L = keyed L0 ∧ ∀ p ∈ L0, p ∈ ks
  | [], _ => ⟨[], rfl, fun p hp => by cases hp⟩
  | x :: L, h => by
    obtain ⟨L0, e, h0⟩ := keyed_of fun p hp => h p (List.mem_cons_of_mem _ hp)
    obtain ⟨y, hy, ey⟩ := List.mem_map.mp (h x List.mem_cons_self)
    refine ⟨y :: L0, by rw [← ey, e]; rfl, fun p hp => ?_⟩
    rcases List.mem_cons.mp hp with rfl | hp
    · exact hy
    · exact h0 p hp
/-- an order of the values is one of the rows -/
theorem perm_rows {f : Rw → Value} : ∀ {us vs : List Value}, us.Perm vs → ∀ L : List Rw, vs = L.map f → ∃ L' : List Rw, L'.Perm L ∧ us = L'.map f := by
  intro us vs h
  induction h with
  | nil => intro L e; exact ⟨L, List.Perm.refl _, e⟩
  | cons x _ ih =>
    intro L e
    cases L with
    | nil => cases e
    | cons y L =>
      rw [List.map_cons, List.cons.injEq] at e
      obtain ⟨L', p, e'⟩ := ih L e.2
      exact ⟨y :: L', p.cons y, by rw [List.map_cons, e.1, e']⟩
  | swap x y l =>
    intro L e
    match L, e with
    | a :: b :: L, e =>
      simp only [List.map_cons, List.cons.injEq] at e
      exact ⟨b :: a :: L, List.Perm.swap a b L, by simp [e.1, e.2.1, e.2.2]⟩
  | trans _ _ ih1 ih2 =>
    intro L e
    obtain ⟨L2, p2, e2⟩ := ih2 L e
    obtain ⟨L1, p1, e1⟩ := ih1 L2 e2
    exact ⟨L1, p1.trans p2, e1⟩

/-! ### the set as an object of the layer -/
structure S0 (P : Program) (w : World) (h : Heap) (a : Addr) (L : List Rw) : Prop where
  ex : ∃ (es : Array (Int × Value)) (ep : Nat) (tb : SetTable), (∃ o, h.get? a = some o ∧ o.ExactSet ∧ o.data = .set es ep tb) ∧ es.toList = ents P w (keyed L) ∧ Tb tb ((keyed L).map fun p => hx P w p.2) ∧
    (w.params.followText "set-order" = true ∨ tb.led = true) ∧ L.length * 5 < tb.mask * 3
def SO (P : Program) (w : World) (a : Addr) (L : List Rw) : HO := .ext fun h => S0 P w h a L
theorem keyed_len (L : List Rw) : (keyed L).length = L.length := List.length_map _
theorem so_new {P : Program} {w : World} {H : Hp} {h : Heap} {a : Addr} {L : List Rw} {es : Array (Int × Value)} {ep : Nat} {tb : SetTable} (R : Sx P w h a (keyed L) es ep tb) : ObjOk P w H h a (SO P w a L) := by
  have rm := R.room
  rw [keyed_len] at rm
  refine ⟨⟨es, ep, tb, R.ob, R.rows, R.tab, R.led, rm⟩, R.ob.imp fun o x => x.1, fun h1 h2 p k => ?_⟩
  obtain ⟨es', ep', tb', ⟨o', g', r'⟩, q'⟩ := S0.ex p
  exact ⟨es', ep', tb', ⟨o', k o' g', r'⟩, q'⟩
theorem refs_are {f : Rw → Addr} : ∀ {ks : List Rw} {us : List Value}, Vals (ks.map fun p => V.ref (f p)) us → us = ks.map fun p => Value.ref (f p)
  | [], _, .nil => rfl
  | p :: ks, _, .cons r t => by
    cases r
    rw [refs_are t]
    rfl
theorem refs_vals {f : Rw → Addr} : ∀ (ks : List Rw), Vals (ks.map fun p => V.ref (f p)) (ks.map fun p => Value.ref (f p))
  | [] => .nil
  | _ :: ks => .cons rfl (refs_vals ks)
section
variable {X : Cx} {pins : List (Addr × Obj)} {σ : L2.St} {H : Hp} {s : Shared}
theorem kx_of (I : Inv X pins σ H s) {b : Addr} {q : Q2} (h : SqT X.K H b (vq q)) : Kx X.prog X.w s.heap (kq q) b ∧ Reads s.heap (.ref b) (pq q) [] := by
  obtain ⟨its, r, ⟨o, ho, hc, n, hd⟩, _⟩ := I.tuple h
  cases r with
  | cons r1 r =>
    cases r with
    | cons r2 r =>
      cases r
      obtain ⟨t1, rfl⟩ := r1
      obtain ⟨t2, rfl⟩ := r2
      refine ⟨⟨o, _, n, ho, hc, hd, ?_⟩, .tuple ho hc hd ?_⟩
      · exact .cons (mixKind_int _ _ _ _) (.cons (mixKind_str _ _ _ _) .nil)
      · exact .cons (as := []) (bs := []) (.int _ _) (.cons (as := []) (bs := []) (.str _ _) .nil)
/-- set(xs) -/
def rSet (K : PySem.W.Frag) (P : Program) (w : World) : List V → Hp → VK → Prop := fun xs H Q => ∃ (l : Addr) (ks : List Rw), xs = [V.ref l] ∧ SqL K H l (ks.map fun p => V.ref p.1) ∧ (∀ p ∈ ks, SqT K H p.1 (vq p.2)) ∧ (ddQ (ks.map (·.2))).length ≤ 1000 ∧
  ∀ a L, H a = none → (∀ p ∈ L, p ∈ ks) → (∀ p ∈ ks, p.2 ∈ L.map (·.2)) → (L.map (·.2)).Nodup → Q (.ref a) (upd H a (SO P w a L))
theorem cr_set (hc : X.calm = true) (hu : X.A.units + 64 < cLine) : CallR X (.type "set") (rSet X.K X.prog X.w) := by
  intro pins s σ H xs us Q I r h
  obtain ⟨l, ks, rfl, hl, hk, few, q⟩ := h
  rw [Vals.ref1 r]
  obtain ⟨its, rv, pl, hz⟩ := I.list hl
  have free : H s.heap.objs.size = none := I.hok.fresh (Nat.le_refl _)
  have eits : its = ks.map fun p => Value.ref p.1 := refs_are rv
  refine make (P := X.prog) (w := X.w) (keyed ks) (I.ok.hd hc) pl.isList (by simp [eits, keyed]) (fun p hp => ?_) ((ddQ (ks.map (·.2))).map kq) (by simpa using few) (fun p hp => ?_) (by omega) fun h' tk L es ep tb R Ha kp => ?_
  · obtain ⟨y, hy, rfl⟩ := List.mem_map.mp hp
    exact (kx_of I (hk y hy)).1
  · obtain ⟨y, hy, rfl⟩ := List.mem_map.mp hp
    exact List.mem_map.mpr ⟨y.2, mem_dd.mpr (List.mem_map.mpr ⟨y, hy, rfl⟩), rfl⟩
  · obtain ⟨L0, rfl, sub⟩ := keyed_of (ks := ks) fun p hp => List.mem_of_mem_take (Ha.sub p hp)
    have all := Ha.all
    rw [List.take_length] at all
    refine ⟨.ref s.heap.objs.size, upd H s.heap.objs.size (SO X.prog X.w s.heap.objs.size L0), I.laid (t' := tk) kp (Nat.le_refl _) (so_new R), rfl, q _ L0 free sub (fun p hp => ?_) ?_⟩
    · have z := all (p.1, kq p.2) (List.mem_map.mpr ⟨p, hp, rfl⟩)
      simp only [keyed, List.map_map] at z
      obtain ⟨y, hy, ey⟩ := List.mem_map.mp z
      exact List.mem_map.mpr ⟨y, hy, kq_inj ey⟩
    · have nd := R.nd
      have e : (keyed L0).map (·.2) = (L0.map (·.2)).map kq := by simp [keyed]
      rw [e] at nd
      exact List.Pairwise.of_map kq (fun a b hne e => hne (congrArg kq e)) nd
/-- sorted(a set) -/
def rSrt (K : PySem.W.Frag) (P : Program) (w : World) : List V → Hp → VK → Prop := fun vs H Q => ∃ (a : Addr) (L : List Rw), vs = [V.ref a] ∧ H a = some (SO P w a L) ∧ L.length ≤ 1000 ∧ (∀ p ∈ L, SqT K H p.1 (vq p.2)) ∧
  ∀ (L' : List Rw) (p : Addr), L'.Perm L → L'.Pairwise (fun q r => leQ q.2 r.2 = true) → H p = none → Q (.ref p) (upd H p (.lst (L'.map fun q => V.ref q.1)))
theorem cr_srt (hc : X.calm = true) (hu : X.A.units + 64 < cLine) : CallR X (.builtin "sorted") (rSrt X.K X.prog X.w) := by
  intro pins s σ H vs us Q I r h
  obtain ⟨a, L, rfl, ha, few, hk, q⟩ := h
  obtain ⟨es, ep, tb, ⟨o, g, ex, dt⟩, rows, T, ld, rm⟩ := S0.ex (I.hok a _ ha).1
  rw [Vals.ref1 r]
  have sz := ents_len rows
  rw [keyed_len] at sz
  have ft : tb.fits es.size = true := by
    have := T.fits (by rw [List.length_map, keyed_len]; omega)
    rw [List.length_map, keyed_len] at this
    rw [sz]
    exact this
  refine Calls.call_function_entry kind_sorted plain_sorted entry_sorted (args_sorted1 _) ?_
  unfold Builtin.«sorted»
  refine wpAny_bind (m := checkCount "sorted" 1 1 _) (wpAny_pure ?_)
  refine wpAny_bind (collect_set (A := X.A.in1) (I.ok.hd hc) ⟨o, g, ex.1, dt⟩ ft (by unfold scanBound; omega) T.asc ld fun s1 vs k1 hz g1 o1 pm => ?_)
  have evs : es.toList.map (·.2) = L.map fun p => Value.ref p.1 := by
    rw [rows]
    simp [ents, keyed]
  rw [evs] at pm
  obtain ⟨L1, p1, rfl⟩ := perm_rows pm L rfl
  have n1 : (L1.map fun p => Value.ref p.1).length ≤ 1000 := by rw [List.length_map, p1.length_eq]; exact few
  refine wpAny_bind (wpAny_newList ?_ (by rw [sizeLine_eq]; omega))
  have gL : (s1.heap.push (seqObj "list" (L1.map fun p => Value.ref p.1).toArray 0)).get? s1.heap.objs.size = some (seqObj "list" (L1.map fun p => Value.ref p.1).toArray 0) := Heap.get?_push_size _ rfl
  have rd : ∀ p ∈ L1, Reads (s1.heap.push (seqObj "list" (L1.map fun p => Value.ref p.1).toArray 0)) (.ref p.1) (pq p.2) [] := fun p hp => by
    have r0 := (kx_of I (hk p (p1.mem_iff.mp hp))).2
    exact PyProof.Rows.Reads.keeps (fun b u e => Heap.get?_push_of_some _ (k1 b u e)) r0
  have each : ∀ l : List Rw, (∀ p ∈ l, p ∈ L1) → EachIs (fun v (p : Rw) => v = Value.ref p.1 ∧ p ∈ L1) (l.map fun p => Value.ref p.1) l := by
    intro l
    induction l with
    | nil => exact fun _ => .nil
    | cons p l ih => exact fun hl => .cons ⟨rfl, hl p List.mem_cons_self⟩ (ih fun y hy => hl y (List.mem_cons_of_mem _ hy))
  have e1 := each L1 fun p hp => hp
  refine wpAny_bind (wpAny_holding (PySem.W.list_sort_data (s := { s1 with heap := s1.heap.push (seqObj "list" (L1.map fun p => Value.ref p.1).toArray 0) }) (enc := fun p : Rw => pq p.2) gL e1
    (e1.mono fun v p ⟨e, hp⟩ => ⟨[], e ▸ rd p hp, by simp⟩) (AllAlike.of fun _ _ => by simp [alike, alikeAll, pq]) (Sortable.tuples fun _ => ⟨_, _, rfl⟩) (by rw [List.length_map] at n1; rw [sizeLine_eq]; omega) (fun p _ => ?_) fun out hl eo => ?_))
  · have : (pq p.2).depth = 1 := by simp [pq, PyData.depth, PyData.depthAll]
    have h1 : X.A.in1.units = X.A.units + 1 := rfl
    rw [this]
    omega
  · have pmS : (L1.mergeSort (dataLe false fun p : Rw => pq p.2)).Perm L1 := List.mergeSort_perm _ _
    have le1 : (dataLe false fun p : Rw => pq p.2) = fun p q => leQ p.2 q.2 := by
      funext p q
      exact congrFun (congrFun pq_le p.2) q.2
    have pw : (L1.mergeSort (dataLe false fun p : Rw => pq p.2)).Pairwise (fun q r => leQ q.2 r.2 = true) := by
      rw [le1]
      exact List.pairwise_mergeSort (fun a b c => leQ_trans a.2 b.2 c.2) (fun a b => leQ_total a.2 b.2) L1
    generalize L1.mergeSort (dataLe false fun p : Rw => pq p.2) = L2 at pmS pw eo
    have eout : out = L2.map fun p => Value.ref p.1 := by
      clear pmS pw hl
      induction eo with
      | nil => rfl
      | cons h _ ih => rw [List.map_cons, h.1, ← ih]
    have eo2 : (List.toArray out) = (L2.map fun p => Value.ref p.1).toArray := by rw [eout]
    rw [eo2]
    have hn : H s1.heap.objs.size = none := I.hok.fresh hz
    obtain ⟨c, gc⟩ := sortedHeap_at (vs := L1.map fun p => Value.ref p.1) (out := (L2.map fun p => Value.ref p.1).toArray) gL
    have kk : ∀ b u, s.heap.get? b = some u → (sortedHeap (s1.heap.push (seqObj "list" (L1.map fun p => Value.ref p.1).toArray 0)) s1.heap.objs.size (L1.map fun p => Value.ref p.1) (L2.map fun p => Value.ref p.1).toArray).get? b = some u := fun b u e => by
      have e2 := k1 b u e
      have lt := Heap.lt_size e2
      rw [sortedHeap_old (Nat.ne_of_lt lt) (by rw [size_push']; exact Nat.lt_succ_of_lt lt)]
      exact Heap.get?_push_of_some _ e2
    have pL : L2.Perm L := pmS.trans p1
    have ln : (L2.map fun p => V.ref p.1).length ≤ sizeLine := by rw [List.length_map, pL.length_eq, sizeLine_eq]; omega
    have J : Inv X pins σ (upd H s1.heap.objs.size (.lst (L2.map fun p => V.ref p.1))) { s with heap := sortedHeap (s1.heap.push (seqObj "list" (L1.map fun p => Value.ref p.1).toArray 0)) s1.heap.objs.size (L1.map fun p => Value.ref p.1) (L2.map fun p => Value.ref p.1).toArray, gens := s1.gens, drawn := s1.drawn, toks := s1.toks } :=
      I.call (ch := []) (Un.laid kk hz hn) (I.hok.laid kk hz ⟨ln, L2.map fun p => Value.ref p.1, c, refs_vals L2, gc⟩) (by rw [g1]; exact I.bare) (fun _ z => nomatch z)
    refine wpAny_pure ⟨_, rfl, .ref s1.heap.objs.size, _, ?_, rfl, q L2 s1.heap.objs.size pL pw hn⟩
    have es : s1 = { s with heap := s1.heap, gens := s1.gens, drawn := s1.drawn, toks := s1.toks } := by
      cases s1
      cases s
      cases o1
      rfl
    rw [es]
    exact J
end
end Mi.B
end
section
set_option linter.all false
set_option maxRecDepth 100000
set_option Elab.async false
set_option maxHeartbeats 1000000
/-! sorted(set(..)) of pairs; s.index(t); d.get(k, v). -/
namespace Mi
open PySem PySem.Spec PyProof.Rows L2
/-- sorted(set(x)) -/
def vSset : Expr → Option Expr
  | .Call (.Name a _) [.Call (.Name b _) [x] [] _] [] _ => if a = "sorted" ∧ b = "set" then some x else none
  | _ => none
theorem vSset_ok {e x : Expr} (h : vSset e = some x) : ∃ p q p2 p3, e = .Call (.Name "sorted" p) [.Call (.Name "set" p2) [x] [] p3] [] q := by
  unfold vSset at h
  split at h
  · split at h
    · rename_i hn
      cases h
      obtain ⟨rfl, rfl⟩ := hn
      exact ⟨_, _, _, _, rfl⟩
    · cases h
  · cases h
section
variable {τ : Tbs} {pa : Pa τ} {B : Addr → Prop} {H : Hp}
/-- a list of pairs: the tuples' addresses -/
theorem pairs_rep : ∀ {vs : List V} {ds : List D} {l : List Q2}, RepL pa B H vs ds → pairL ds = some l → ∃ ks : List Mi.B.Rw, vs = ks.map (fun p => V.ref p.1) ∧ ks.map (·.2) = l ∧
    ∀ p ∈ ks, H p.1 = some (.tup (Mi.B.vq p.2)) ∧ p.2.2.length ≤ line ∧ p.2.2.all (fun c => decide (c < 0x110000)) = true
  | _, [], l, .nil, h => by
    cases h
    exact ⟨[], rfl, rfl, fun p hp => by cases hp⟩
  | _, d :: ds, l, .cons r t, h => by
    cases r with
    | tup e le rr =>
      cases rr with
      | nil => simp [pairL] at h
      | cons r1 rr =>
        cases r1 with
        | int n =>
          cases rr with
          | nil => simp [pairL] at h
          | cons r2 rr =>
            cases r2 with
            | str x h1 h2 =>
              cases rr with
              | nil =>
                simp only [pairL, Option.map_eq_some_iff] at h
                obtain ⟨l', hl, rfl⟩ := h
                obtain ⟨ks, e1, e2, e3⟩ := pairs_rep t hl
                refine ⟨(_, (n, x)) :: ks, by rw [e1]; rfl, by rw [← e2]; rfl, fun p hp => ?_⟩
                rcases List.mem_cons.mp hp with rfl | hp
                · exact ⟨e, h1, h2⟩
                · exact e3 p hp
              | cons _ _ => simp [pairL] at h
            | _ => simp [pairL] at h
        | _ => simp [pairL] at h
    | _ => simp [pairL] at h
theorem rep_pair {a : Addr} {q : Q2} (h : H a = some (.tup (Mi.B.vq q))) (h1 : q.2.length ≤ line) (h2 : q.2.all (fun c => decide (c < 0x110000)) = true) : Rep pa B H (.ref a) (qD q) :=
  .tup h (by show 2 ≤ line; decide) (.cons (.int q.1) (.cons (.str q.2 h1 h2) .nil))
theorem rep_pairs : ∀ {ks : List Mi.B.Rw}, (∀ p ∈ ks, H p.1 = some (.tup (Mi.B.vq p.2)) ∧ p.2.2.length ≤ line ∧ p.2.2.all (fun c => decide (c < 0x110000)) = true) → RepL pa B H (ks.map fun p => V.ref p.1) (ks.map fun p => qD p.2)
  | [], _ => .nil
  | p :: ks, h => .cons (rep_pair (h p List.mem_cons_self).1 (h p List.mem_cons_self).2.1 (h p List.mem_cons_self).2.2) (rep_pairs fun y hy => h y (List.mem_cons_of_mem _ hy))
end
section
variable {X : Cx} {c : Cfg} {sc : Scope} {cl : Cl} {k : Nat} {W : WX} {pos : Pos} {a e f : Expr} {fa fb fc : Ga → Tr D}
theorem pe_sset' (g : Gd X c sc cl k W) {p p2 p3 : Pos} (hg : Gl X "sorted") (hm : X.mg "sorted" = none) (hg2 : Gl X "set") (hm2 : X.mg "set" = none) (ha : PE X a (tE X.K c W fa)) (hn : notStar a = true) :
    PE X (.Call (.Name "sorted" p) [.Call (.Name "set" p2) [a] [] p3] [] pos) (tF X.K c W fun Γ => (fa Γ).bind opSset) := by
  refine PE.imp (pe_callB (Mi.B.cr_srt g.calm g.hu) hg hm PyProof.Rows.boot_sorted
    (pa_cons (pe_callTy (Mi.B.cr_set g.calm g.hu) hg2 hm2 PyProof.Rows.boot_set (pa_cons ha pa_nil (starEach_of hn)) (by decide) (by decide) (starEach_of hn) rfl) pa_nil rfl) (by decide) (by decide) rfl rfl) fun σ H Q h => ?_
  refine (te_oneF h).mono fun v H1 ⟨Γ, pa, B, b, d, o, r, h⟩ => ?_
  cases r with
  | lst n e l r =>
    simp only [opSset] at h
    split at h
    · rename_i l' hl'
      split at h
      · rename_i few
        obtain ⟨ks, rfl, e2, e3⟩ := pairs_rep r hl'
        subst e2
        refine ⟨_, ks, rfl, SqL.of e, fun p hp => SqT.of (e3 p hp).1, few, fun a L hn hs hall hnd => ?_⟩
        have tupL : ∀ p ∈ L, upd H1 a (Mi.B.SO X.prog X.w a L) p.1 = some (.tup (Mi.B.vq p.2)) := fun p hp => by
          rw [upd_ne (ne_of_none (e3 p (hs p hp)).1 hn)]
          exact (e3 p (hs p hp)).1
        have pm : (L.map (·.2)).Perm (ddQ (ks.map (·.2))) := (List.perm_ext_iff_of_nodup hnd (Mi.B.nd_dd _)).mpr fun q => by
          rw [Mi.B.mem_dd]
          constructor
          · intro z
            obtain ⟨p, hp, rfl⟩ := List.mem_map.mp z
            exact List.mem_map.mpr ⟨p, hs p hp, rfl⟩
          · intro z
            obtain ⟨p, hp, rfl⟩ := List.mem_map.mp z
            exact hall p hp
        have fewL : L.length ≤ 1000 := by
          have := pm.length_eq
          rw [List.length_map] at this
          rw [this]
          exact few
        refine ⟨a, L, rfl, upd_same, fewL, fun p hp => SqT.of (tupL p hp), fun L' p pL pw hp => ?_⟩
        have e4 : L'.map (·.2) = (ddQ (ks.map (·.2))).mergeSort leQ := List.Perm.eq_of_pairwise (le := fun a b => leQ a b = true) (fun a b _ _ => Mi.B.leQ_anti a b) (List.pairwise_map.mpr pw)
          (List.pairwise_mergeSort Mi.B.leQ_trans Mi.B.leQ_total _) (((pL.map (·.2)).trans pm).trans (List.mergeSort_perm _ _).symm)
        have e5 : ((ddQ (ks.map (·.2))).mergeSort leQ).map qD = L'.map fun p => qD p.2 := by
          rw [← e4, List.map_map]
          rfl
        rw [e5] at h
        have x1 : Ex pa H1 (upd H1 a (Mi.B.SO X.prog X.w a L)) := Ex.new hn
        have x2 : Ex pa (upd H1 a (Mi.B.SO X.prog X.w a L)) (upd (upd H1 a (Mi.B.SO X.prog X.w a L)) p (.lst (L'.map fun q => V.ref q.1))) := Ex.new hp
        have rm2 := o.rm.ex x1 (o.rm.hk.new hn)
        refine h _ _ (x1.trans x2) (rm2.hk.new hp) (.lst (rm2.nb hp) upd_same ?_ (rep_pairs fun y hy => ?_)) ⟨p, rfl, x1.free (Nw.of hp), NF.lst upd_same⟩
        · rw [List.length_map, pL.length_eq]
          exact Nat.le_trans fewL (by decide)
        · have hyL := pL.mem_iff.mp hy
          refine ⟨?_, (e3 y (hs y hyL)).2⟩
          rw [upd_ne (ne_of_none (tupL y hyL) hp)]
          exact tupL y hyL
      · exact h.elim
    · exact h.elim
  | _ => exact h.elim
/-! ### s.index(t) -/
theorem pe_index' (g : Gd X c sc cl k W) {apos : Pos} (ha : PE X a (tE X.K c W fa)) (hb : PE X e (tE X.K c W fb)) (hn : notStar e = true) (hbare : notBare a = true) (hl : (apos.endLine == pos.line) = true) :
    PE X (.Call (.Attribute a "index" apos) [e] [] pos) (tE X.K c W fun Γ => (fa Γ).bind fun x => (asStr x).bind fun z => (fb Γ).bind fun y => opIndex z y) := by
  refine PE.imp (pe_bmS F.plainAttrs_str F.slot_str_index F.type_str_index (mt_indexX g.calm g.tk) ha (pa_cons hb pa_nil (starEach_of hn)) (attrBase_of hbare) (by rw [starEach_of hn]; rfl) hl (starEach_of hn) rfl) fun σ H Q h => ?_
  obtain ⟨Γ, pa, B, b, o, h⟩ := h
  refine ⟨Γ, pa, B, b, o, Tr.wp_mono (fun b1 d1 h2 v H1 x kk r => ?_) (fun _ _ z => z) _ _ ((Tr.wp_bind _ _).mp h)⟩
  have o1 := o.ex x kk
  obtain ⟨z, rfl, rfl, h3⟩ := asS r ((Tr.wp_bind _ _).mp h2)
  refine ⟨rfl, Γ, pa, B, b1, o1, Tr.wp_mono (fun b2 d2 h4 v2 H2 x2 k2 r2 => ?_) (fun _ _ z => Er.ex z x) _ _ ((Tr.wp_bind _ _).mp h3)⟩
  cases r2 with
  | str y _ _ =>
    simp only [opIndex] at h4
    split at h4
    · rename_i n hn'
      refine ⟨_, _, rfl, rfl, fun m hm => ?_, fun q => ?_⟩
      · rw [hn'] at hm
        cases hm
        exact h4 _ _ (x.trans x2) k2 (.int _)
      · rw [hn'] at q
        cases q
    · exact h4.elim
  | _ => exact h4.elim
/-! ### d.get(k, v) -/
theorem asD {τ : Tbs} {pa : Pa τ} {B : Addr → Prop} {H : Hp} {b : Nat} {x : V} {a : D} {P : Nat → List (S × D) → Prop} {E : Nat → Nat → Prop} (r : Rep pa B H x a) (h : (asDct a).wp b P E) : ∃ p kvs ds, x = .ref p ∧ a = .dct ds ∧ ¬ B p ∧ Rd H p (.dK kvs) ∧ RepK pa B H kvs ds ∧ P b ds := by
  cases r with
  | dct n e l r => exact ⟨_, _, _, rfl, rfl, n, e, r, h⟩
  | _ => exact h.elim
theorem pe_get' (g : Gd X c sc cl k W) {apos : Pos} (ha : PE X a (tE X.K c W fa)) (hb : PE X e (tE X.K c W fb)) (hc : PE X f (tE X.K c W fc)) (hn : notStar e = true) (hn2 : notStar f = true) (hbare : notBare a = true) (hl : (apos.endLine == pos.line) = true) :
    PE X (.Call (.Attribute a "get" apos) [e, f] [] pos) (tE X.K c W fun Γ => (fa Γ).bind fun x => (asDct x).bind fun z => (fb Γ).bind fun y => (fc Γ).bind fun y2 => opGet z y y2) := by
  have hu := g.hu
  refine PE.imp (pe_dget2 (by omega) ha hb hc ⟨attrBase_of hbare, by rw [starEach_of hn, starEach_of hn2]; rfl, hl, by rw [starEach_of hn, starEach_of hn2]; rfl⟩) fun σ H Q h => ?_
  obtain ⟨Γ, pa, B, b, o, h⟩ := h
  refine ⟨Γ, pa, B, b, o, Tr.wp_mono (fun b1 d1 h2 v H1 x kk r => ?_) (fun _ _ z => z) _ _ ((Tr.wp_bind _ _).mp h)⟩
  have o1 := o.ex x kk
  obtain ⟨p, kvs, ds, rfl, rfl, np, ep, rk, h3⟩ := asD r ((Tr.wp_bind _ _).mp h2)
  refine ⟨p, rfl, .inl ⟨kvs, ep⟩, Γ, pa, B, b1, o1, Tr.wp_mono (fun b2 d2 h4 v2 H2 x2 k2 r2 => ?_) (fun _ _ z => Er.ex z x) _ _ ((Tr.wp_bind _ _).mp h3)⟩
  have o2 := o1.ex x2 k2
  refine ⟨Γ, pa, B, b2, o2, Tr.wp_mono (fun b3 d3 h5 v3 H3 x3 k3 r3 => ?_) (fun _ _ z => Er.ex z (x.trans x2)) _ _ ((Tr.wp_bind _ _).mp h4)⟩
  have rk3 := (rk.keeps (x2.keeps o1.rm.hk o1.rm.bp)).keeps (x3.keeps o2.rm.hk o2.rm.bp)
  have e3 := (x3.keeps o2.rm.hk o2.rm.bp).dct _ _ np ((x2.keeps o1.rm.hk o1.rm.bp).dct _ _ np ep)
  have r2' := r2.ex x3 o2.rm
  cases r2' with
  | str y _ _ =>
    refine ⟨_, .inl ⟨kvs, .inr ⟨y.toArray⟩, e3, rfl, rfl⟩, ?_⟩
    have h6 : Po pa B H Q b3 ((look ds y).getD d3) := h5
    rcases look_val y rk3 with ⟨q1, q2⟩ | ⟨dv, z, q1, q2, q3⟩
    · rw [q1] at h6
      rw [q2]
      exact h6 _ _ ((x.trans x2).trans x3) k3 r3
    · rw [q1] at h6
      rw [q2]
      exact h6 _ _ ((x.trans x2).trans x3) k3 q3
  | _ => exact h5.elim
end
end Mi
end
section
set_option linter.all false
set_option maxRecDepth 100000
set_option Elab.async false
set_option maxHeartbeats 1000000
/-! X(e), isinstance(e, X): exceptions. -/
namespace Mi
open PySem PySem.Spec PyProof.Rows L2
/-- isinstance(e, c), e an exception that is tracked -/
def rIsX (K : PySem.W.Frag) : List V → Hp → VK → Prop := fun xs H Q => ∃ (D a : Addr) (o : HO) (c : V) (cv : Value) (b : Bool), ExcC K D ∧ xs = [.ref a, c] ∧ H a = some o ∧ isEx D a o ∧ (∀ u, RelV c u → u = cv) ∧ PySem.W.kitOne K (.ref D) cv = some b ∧ Q (.bl b) H
theorem call_isX {X : Cx} : CallR X (.builtin "isinstance") (rIsX X.K) := by
  intro pins s σ H xs us Q I r h
  obtain ⟨D, a, o, c, cv, b, C, rfl, hH, hx, hcv, e, q⟩ := h
  cases r with
  | cons rx rr =>
    cases rr with
    | cons rt rr =>
      cases rr
      cases rx
      have ec := hcv _ rt
      subst ec
      have J : ∃ oe, PySem.W.InstAt s.heap a oe D none := by
        rcases hx with rfl | rfl
        · obtain ⟨⟨oe, hget, ⟨z1, z2⟩, vs, hv⟩, _, _⟩ := I.hok a _ hH
          refine ⟨oe, ?_⟩
          obtain ⟨oc, od, oda, osl⟩ := oe
          dsimp only at z1 z2 hv
          subst z1 z2 hv
          exact ⟨hget, rfl, rfl, trivial⟩
        · obtain ⟨⟨oe, vs, hget, ⟨z1, z2⟩, hv, _⟩, _, _⟩ := I.hok a _ hH
          refine ⟨oe, ?_⟩
          obtain ⟨oc, od, oda, osl⟩ := oe
          dsimp only at z1 z2 hv
          subst z1 z2 hv
          exact ⟨hget, rfl, rfl, trivial⟩
      obtain ⟨oe, J⟩ := J
      exact PySem.W.kia_one (PySem.W.handS_kitx_exc C.hg C.hk C.hs C.hd C.ha C.hn C.ht C.hm) I.kIn J e (fun z => nomatch z) fun tk => ⟨.bl b, H, I.kept (t' := tk) fun _ _ z => z, rfl, q⟩
theorem XQ.boot {q : XQ} (h : q.ty ≠ "") : bootBuiltins (q.ty : Str) = some (.type q.ty) ∧ (q.ty : Str) ≠ "__name__" ∧ ((q.ty : Str) == ("__debug__" : Str)) = false := by
  cases q with
  | own i => exact absurd rfl h
  | val => exact ⟨by decide +kernel, by decide +kernel, by decide +kernel⟩
  | look => exact ⟨by decide +kernel, by decide +kernel, by decide +kernel⟩
  | arit => exact ⟨by decide +kernel, by decide +kernel, by decide +kernel⟩
  | typ => exact ⟨by decide +kernel, by decide +kernel, by decide +kernel⟩
section
variable {X : Cx} {c : Cfg} {sc : Scope} {cl : Cl} {k : Nat} {W : WX} {pos : Pos} {a e f : Expr} {fa fb fc : Ga → Tr D}
theorem pe_mkx' {i : Nat} {x : Str} {p : Pos} (F : Fc X.prog X.w X.K X.mg X.base c cl k) (h1 : c.excs[i]? = some x) (hg : Gl X x) (ho : okN x = true) (he : PE X e (tE X.K c W fa)) (hn : notStar e = true) :
    PE X (.Call (.Name x p) [e] [] pos) (tE X.K c W fun Γ => (fa Γ).bind fun _ => .ok (.exc i)) := by
  obtain ⟨bmB, B, newId, initId, e1, e2, e3, e4, e5, e6⟩ := F.excs i x h1
  refine PE.imp (pe_exc1 e1 e2 e3 e4 hg he (starEach_of hn) (okN_ok ho).1) fun σ H Q h => ?_
  obtain ⟨Γ, pa, B, b, o, h⟩ := h
  refine ⟨Γ, pa, B, b, o, Tr.wp_mono (fun b1 d1 h2 v H1 x kk r a ha => ?_) (fun _ _ z => z) _ _ ((Tr.wp_bind _ _).mp h)⟩
  have h3 : Po pa B H Q b1 (.exc i) := h2
  refine h3 _ _ (x.trans (Ex.new ha)) (kk.new ha) (.exc (C := He.ga X.K ‹Str›) ?_ upd_same (.inr rfl))
  show (c.excs[i]?).map (He.ga X.K) = _
  rw [h1]
  rfl
/-- the class's name, as a value -/
def XqAt (X : Cx) (sc : Scope) (c : Cfg) (q : XQ) (y : Expr) : Prop := ∃ v : V, PE X y (tC v) ∧ ∀ u, RelV v u → u = q.v X.K c
theorem pe_isX' {q : XQ} {ys : List Nat} {p : Pos} {y : Expr} (F : Fc X.prog X.w X.K X.mg X.base c cl k) (hq : (q, ys) ∈ c.isx) (hg : Gl X "isinstance") (hm : X.mg "isinstance" = none) (hy : XqAt X sc c q y) (ha : PE X a (tE X.K c W fa)) (hn : notStar a = true) (hny : notStar y = true) :
    PE X (.Call (.Name "isinstance" p) [a, y] [] pos) (tE X.K c W fun Γ => (fa Γ).bind (opIsX ys)) := by
  obtain ⟨v, py, hv⟩ := hy
  refine PE.imp (pe_callB call_isX hg hm boot_isi (pa_cons ha (pa_cons py pa_nil (starEach_of hny)) (starEach_of hn)) (by decide) (by decide) (starEach_of hn) (star_any (by simp [hny]))) fun σ H Q h => ?_
  refine (te_one h).mono fun u H1 ⟨Γ, pa, B, b, d, o, r, h⟩ => ?_
  cases r with
  | @exc i C a' o' hc ea hx =>
    have h2 : Po pa B H1 Q b (.bl (ys.contains i)) := h
    have hc' : (c.excs[i]?).map (He.ga X.K) = some C := hc
    obtain ⟨n, hn1, rfl⟩ := Option.map_eq_some_iff.mp hc'
    have hlt : i < c.excs.length := (List.getElem?_eq_some_iff.mp hn1).1
    have hf := List.all_eq_true.mp (F.isx _ hq) i (List.mem_range.mpr hlt)
    simp only [Bool.and_eq_true, decide_eq_true_eq] at hf
    obtain ⟨f1, f2⟩ := hf
    have en : c.excs.getD i Str.empty = n := by rw [List.getD_eq_getElem?_getD, hn1]; rfl
    have f1' := Tk.exB_ok f1
    unfold xv at f2
    rw [en] at f1' f2
    exact ⟨_, _, _, _, _, _, f1', rfl, ea, hx, hv, f2, h2.here o.rm (.bl _)⟩
  | _ => exact h.elim
end
end Mi
end
section
set_option linter.all false
set_option maxRecDepth 100000
set_option Elab.async false
set_option maxHeartbeats 1000000
/-! The check of expressions, and what it promises. -/
namespace Mi
open PySem PySem.Spec PyProof.Rows L2
def notIf : Expr → Bool
  | .IfExp _ _ _ _ => false
  | _ => true
def isM1 : Expr → Bool
  | .UnaryOp .USub (.Constant (.int 1) _ _) _ => true
  | _ => false
theorem isM1_ok {e : Expr} (h : isM1 e = true) : ∃ j p1 p2, e = .UnaryOp .USub (.Constant (.int 1) j p1) p2 := by
  unfold isM1 at h
  split at h
  · exact ⟨_, _, _, rfl⟩
  · cases h
def strT : Expr → Bool
  | .Constant (.bool true) _ _ => true
  | _ => false
theorem strT_ok {e : Expr} (h : strT e = true) : ∃ j p, e = .Constant (.bool true) j p := by
  unfold strT at h
  split at h
  · exact ⟨_, _, rfl⟩
  · cases h
/-- zip(a, b, strict=True) -/
def vZipS : Expr → Option (Expr × Expr)
  | .Call (.Name x _) [a, b] [⟨some k, v, _⟩] _ => if x = "zip" ∧ k = "strict" ∧ strT v = true then some (a, b) else none
  | _ => none
theorem vZipS_ok {e a b : Expr} (h : vZipS e = some (a, b)) : ∃ p q j p2 p3, e = .Call (.Name "zip" p) [a, b] [⟨some "strict", .Constant (.bool true) j p2, p3⟩] q := by
  unfold vZipS at h
  split at h
  · split at h
    · rename_i hh
      obtain ⟨rfl, rfl, h3⟩ := hh
      obtain ⟨j, p, rfl⟩ := strT_ok h3
      cases h
      exact ⟨_, _, _, _, _, rfl⟩
    · cases h
  · cases h
/-- sorted(a, key=place_key) -/
def vSortK : Expr → Option Expr
  | .Call (.Name x _) [a] [⟨some k, .Name f _, _⟩] _ => if x = "sorted" ∧ k = "key" ∧ f = "place_key" then some a else none
  | _ => none
theorem vSortK_ok {e a : Expr} (h : vSortK e = some a) : ∃ p q p2 p3, e = .Call (.Name "sorted" p) [a] [⟨some "key", .Name "place_key" p2, p3⟩] q := by
  unfold vSortK at h
  split at h
  · split at h
    · rename_i hh
      obtain ⟨rfl, rfl, rfl⟩ := hh
      cases h
      exact ⟨_, _, _, _, rfl⟩
    · cases h
  · cases h
/-- f(k = a, ..) -/
def vKall : Expr → Option (Str × List Keyword)
  | .Call (.Name x _) [] kws _ => some (x, kws)
  | _ => none
theorem vKall_ok {e : Expr} {x : Str} {kws : List Keyword} (h : vKall e = some (x, kws)) : ∃ p q, e = .Call (.Name x p) [] kws q := by
  unfold vKall at h
  split at h
  · cases h
    exact ⟨_, _, rfl⟩
  · cases h
/-- needs no leave of repr -/
def biR : Bi → Bool
  | .repr => false
  | _ => true
def biN : Bi → String
  | .len => "len"
  | .all => "all"
  | .tuple => "tuple"
  | .list => "list"
  | .int => "int"
  | .abs => "abs"
  | .repr => "repr"
  | .mx => "max"
  | .mn => "min"
def biT : Bi → Bool
  | .tuple => true
  | .list => true
  | .int => true
  | _ => false
def freeB (c : Cfg) (sc : Scope) (x : Str) : Bool := decide (x ∈ c.free) && glB sc x
def isOp (neg : Bool) (op : CmpOp) : Bool := match neg, op with
  | true, .IsNot => true
  | false, .Is => true
  | _, _ => false
def inOp (neg : Bool) (op : CmpOp) : Bool := match neg, op with
  | true, .NotIn => true
  | false, .In => true
  | _, _ => false
theorem isOp_ok : ∀ {neg : Bool} {op : CmpOp}, isOp neg op = true → op = match neg with | true => CmpOp.IsNot | false => CmpOp.Is := by
  intro neg op h
  cases neg <;> cases op <;> first | rfl | cases h
theorem inOp_ok : ∀ {neg : Bool} {op : CmpOp}, inOp neg op = true → op = match neg with | true => CmpOp.NotIn | false => CmpOp.In := by
  intro neg op h
  cases neg <;> cases op <;> first | rfl | cases h
def isNone : Expr → Bool
  | .Constant .none _ _ => true
  | _ => false
theorem isNone_ok {e : Expr} (h : isNone e = true) : ∃ j p, e = .Constant .none j p := by
  unfold isNone at h
  split at h
  · exact ⟨_, _, rfl⟩
  · cases h
def isBool (v : Bool) : Expr → Bool
  | .Constant (.bool b) _ _ => b == v
  | _ => false
theorem isBool_ok {v : Bool} {e : Expr} (h : isBool v e = true) : ∃ j p, e = .Constant (.bool v) j p := by
  unfold isBool at h
  split at h
  · rw [eq_of_beq h]
    exact ⟨_, _, rfl⟩
  · cases h
def lowN : Bool → String
  | true => "upper"
  | false => "lower"
/-- x(lambda: body) -/
def vLam : Expr → Option (Str × Expr × Scope)
  | .Call (.Name x _) [.Lambda ⟨[], [], none, [], [], none, []⟩ body scope _] [] _ => some (x, body, scope)
  | _ => none
theorem vLam_ok {e body : Expr} {x : Str} {scope : Scope} (h : vLam e = some (x, body, scope)) : ∃ p l q, e = .Call (.Name x p) [.Lambda ⟨[], [], none, [], [], none, []⟩ body scope l] [] q := by
  unfold vLam at h
  split at h
  · cases h
    exact ⟨_, _, _, rfl⟩
  · cases h
/-- what a lambda's body is checked with -/
def Cfg.lamB (c : Cfg) : Cfg := { c with rp := false, dn := false }
def xqB (c : Cfg) (sc : Scope) (q : XQ) (y : Expr) : Bool := match vName y with
  | some n => (match q with
    | .own i => decide (c.excs[i]? = some n) && (glB sc n && okN n)
    | q => decide (q.ty ≠ "") && (decide (n = (q.ty : Str)) && freeB c sc n))
  | none => false
mutual
def chkE (c : Cfg) : Scope → E → Expr → Bool
  | sc, .lamc m ws e, ast => match vLam ast with
    | some (x, body, lsc) => (c.dn && decide ((x, m, ws) ∈ c.lams)) && ((glB sc x && okN x) && ((LamX.lamSB sc lsc && ws.all fun p => strB p.2) && chkE c.lamB lsc e body))
    | none => false
  | sc, .var i, e => match vName e with
    | some x => decide (c.N[i]? = some x) && (visB sc x && okN x)
    | none => false
  | sc, .cst d, e => match vConst e with
    | some k => cstB d k
    | none => match vName e with
      | some x => (c.cons.any fun p => decide (p.1 = x) && sameD p.2 d) && (glB sc x && okN x)
      | none => false
  | sc, .bin o a b, e => match vBin e with
    | some (x, op, y) => opB o op && (chkE c sc a x && chkE c sc b y)
    | none => false
  | sc, .neg a, e => match vUn e with
    | some (.USub, x) => chkE c sc a x
    | _ => false
  | sc, .not a, e => match vUn e with
    | some (.Not, x) => chkE c sc a x && notIf x
    | _ => false
  | sc, .and a b, e => match vBool e with
    | some (.And, [x, y], p) => (chkE c sc a x && notIf x) && (chkE c sc b y && notIf y)
    | some (.And, x :: y :: z :: r, p) => (chkE c sc a x && notIf x) && chkE c sc b (.BoolOp .And (y :: z :: r) p)
    | _ => false
  | sc, .or a b, e => match vBool e with
    | some (.Or, [x, y], p) => (chkE c sc a x && notIf x) && (chkE c sc b y && notIf y)
    | some (.Or, x :: y :: z :: r, p) => (chkE c sc a x && notIf x) && chkE c sc b (.BoolOp .Or (y :: z :: r) p)
    | _ => false
  | sc, .cmp o a b, e => match vCmp e with
    | some (x, [op], [y]) => (cmpB o op && notSet y) && (chkE c sc a x && chkE c sc b y)
    | _ => false
  | sc, .chain o o' a b d, e => match vCmp e with
    | some (x, [op, op'], [y, z]) => (cmpB o op && (cmpB o' op' && notSet z)) && (chkE c sc a x && (chkE c sc b y && chkE c sc d z))
    | _ => false
  | sc, .isN neg a, e => match vCmp e with
    | some (x, [op], [y]) => (isOp neg op && isNone y) && chkE c sc a x
    | _ => false
  | sc, .isB neg v a, e => match vCmp e with
    | some (x, [op], [y]) => (isOp neg op && isBool v y) && chkE c sc a x
    | _ => false
  | sc, .ife t a b, e => match vIf e with
    | some (x, y, z) => (chkE c sc t x && notIf x) && (chkE c sc a y && chkE c sc b z)
    | none => false
  | sc, .tup es, e => match vTup e with
    | some xs => decide (xs.length ≤ 1000) && chkEs c sc es xs
    | none => false
  | sc, .lst es, e => match vLst e with
    | some xs => decide (xs.length ≤ 1000) && chkEs c sc es xs
    | none => false
  | sc, .dct0, e => match vDict e with
    | some ([], []) => true
    | _ => false
  | sc, .dct1 a b, e => match vDict e with
    | some ([some x], [y]) => chkE c sc a x && chkE c sc b y
    | _ => false
  | sc, .call f es, e => match vCall e with
    | some (x, xs) => (c.rp || c.pl.contains f) && ((match c.defs[f]? with
      | some (y, n) => decide (y = x) && (decide (xs.length = n) && decide (xs ≠ []))
      | none => false) && ((glB sc x && okN x) && chkEs c sc es xs))
    | none => false
  | sc, .callK f ks pm es, e => match vKall e with
    | some (x, kws) => (c.rp || c.pl.contains f) && ((match c.defs[f]? with
      | some (y, n) => decide (y = x) && (decide ((f, ks, pm) ∈ c.kws) && (kws.all (fun q => q.arg.isSome) && decide (kws.filterMap (·.arg) = ks)))
      | none => false) && ((glB sc x && okN x) && chkEs c sc es (kws.map (·.value))))
    | none => false
  | sc, .bi f es, e => match vCall e with
    | some (x, xs) => (c.rp || biR f) && ((decide (x = biN f) && (decide (xs ≠ []) && freeB c sc x)) && chkEs c sc es xs)
    | none => false
  | sc, .isi T a, e => match vCall e with
    | some (x, [y, z]) => (decide (x = "isinstance") && (decide (vName z = some (tyN T : Str)) && (freeB c sc "isinstance" && freeB c sc (tyN T)))) && (chkE c sc a y && notStar y)
    | _ => false
  | sc, .ix a i, e => match vSub e with
    | some (x, y) => notSlice y && (chkE c sc a x && chkE c sc i y)
    | none => false
  | sc, .sl0 a, e => match vSub e with
    | some (x, s) => (match vSl s with
      | some (none, none, none) => true
      | _ => false) && chkE c sc a x
    | none => false
  | sc, .slT a h, e => match vSub e with
    | some (x, s) => (match vSl s with
      | some (none, some y, none) => chkE c sc h y
      | _ => false) && chkE c sc a x
    | none => false
  | sc, .slF a l, e => match vSub e with
    | some (x, s) => (match vSl s with
      | some (some y, none, none) => chkE c sc l y
      | _ => false) && chkE c sc a x
    | none => false
  | sc, .slB a l h, e => match vSub e with
    | some (x, s) => (match vSl s with
      | some (some y, some z, none) => chkE c sc l y && chkE c sc h z
      | _ => false) && chkE c sc a x
    | none => false
  | sc, .rev a, e => match vSub e with
    | some (x, s) => (match vSl s with
      | some (none, none, some st) => isM1 st
      | _ => false) && chkE c sc a x
    | none => false
  | sc, .join a b, e => match vMeth e with
    | some (o, m, [x]) => (decide (m = "join") && (notBare o && notStar x)) && (chkE c sc a o && chkE c sc b x)
    | _ => false
  | sc, .low up a, e => match vMeth e with
    | some (o, m, []) => (decide (m = lowN up) && notBare o) && chkE c sc a o
    | _ => false
  | sc, .sortk a, e => match vSortK e with
    | some x => (c.key && (freeB c sc "sorted" && (glB sc "place_key" && notStar x))) && chkE c sc a x
    | none => false
  | _, .bad, _ => true
  | sc, .inTab neg t a, e => match vCmp e with
    | some (x, [op], [y]) => (inOp neg op && (match vName y, c.tabs[t]? with
      | some n, some (m, _) => decide (m = n) && (glB sc n && okN n)
      | _, _ => false)) && chkE c sc a x
    | _ => false
  | sc, .getTab t a, e => match vSub e with
    | some (x, y) => (notSlice y && (match vName x, c.tabs[t]? with
      | some n, some (m, _) => decide (m = n) && (glB sc n && okN n)
      | _, _ => false)) && chkE c sc a y
    | none => false
  | sc, .lc s g e', e => match vLc e with
    | some (elt, tg, it, [], scope) => ((tgB c.N scope g tg && blkB c.N sc scope g) && notSet it) && (chkS c sc s tg it && chkE c (relS scope sc) e' elt)
    | _ => false
  | sc, .lcIf s g t e', e => match vLc e with
    | some (elt, tg, it, [ct], scope) => ((tgB c.N scope g tg && blkB c.N sc scope g) && (notSet it && notIf ct)) && (chkS c sc s tg it && (chkE c (relS scope sc) t ct && chkE c (relS scope sc) e' elt))
    | _ => false
  | sc, .dc s g k v, e => match vDc e with
    | some (kx, vx, tg, it, [], scope) => ((tgB c.N scope g tg && blkB c.N sc scope g) && notSet it) && (chkS c sc s tg it && (chkE c (relS scope sc) k kx && chkE c (relS scope sc) v vx))
    | _ => false
  | sc, .dcIf s g t k v, e => match vDc e with
    | some (kx, vx, tg, it, [ct], scope) => ((tgB c.N scope g tg && blkB c.N sc scope g) && (notSet it && notIf ct)) && (chkS c sc s tg it && (chkE c (relS scope sc) t ct && (chkE c (relS scope sc) k kx && chkE c (relS scope sc) v vx)))
    | _ => false
  | sc, .cat a b, e => match vBin e with
    | some (x, op, y) => opB .add op && (chkE c sc a x && chkE c sc b y)
    | none => false
  | sc, .sset a, e => match vSset e with
    | some x => (freeB c sc "sorted" && (freeB c sc "set" && notStar x)) && chkE c sc a x
    | none => false
  | sc, .index a b, e => match vMeth e with
    | some (o, m, [x]) => (decide (m = "index") && (notBare o && notStar x)) && (chkE c sc a o && chkE c sc b x)
    | _ => false
  | sc, .dget a b d, e => match vMeth e with
    | some (o, m, [x, y]) => (decide (m = "get") && (notBare o && (notStar x && notStar y))) && (chkE c sc a o && (chkE c sc b x && chkE c sc d y))
    | _ => false
  | sc, .mkx i e', e => match vCall e with
    | some (x, [y]) => ((decide (c.excs[i]? = some x) && (glB sc x && okN x)) && notStar y) && chkE c sc e' y
    | _ => false
  | sc, .isX q ys a, e => match vCall e with
    | some (f, [o, y]) => ((decide (f = "isinstance") && freeB c sc "isinstance") && ((decide ((q, ys) ∈ c.isx) && notStar o) && xqB c sc q y)) && chkE c sc a o
    | _ => false
def chkEs (c : Cfg) : Scope → Es → List Expr → Bool
  | _, .nil, [] => true
  | sc, .cons e es, x :: xs => (chkE c sc e x && notStar x) && chkEs c sc es xs
  | _, _, _ => false
def chkS (c : Cfg) : Scope → Src → Expr → Expr → Bool
  | sc, .it e, _, x => chkE c sc e x
  | sc, .rng1 e, _, x => match vCall x with
    | some (n, [y]) => (decide (n = "range") && (freeB c sc "range" && notStar y)) && chkE c sc e y
    | _ => false
  | sc, .rng2 a b, _, x => match vCall x with
    | some (n, [y, z]) => (decide (n = "range") && (freeB c sc "range" && (notStar y && notStar z))) && (chkE c sc a y && chkE c sc b z)
    | _ => false
  | sc, .enum e, tg, x => match vCall x with
    | some (n, [y]) => ((vTup tg).isSome && (decide (n = "enumerate") && (freeB c sc "enumerate" && notStar y))) && chkE c sc e y
    | _ => false
  | sc, .zip a b, tg, x => match vCall x with
    | some (n, [y, z]) => ((vTup tg).isSome && (decide (n = "zip") && (freeB c sc "zip" && (notStar y && notStar z)))) && (chkE c sc a y && chkE c sc b z)
    | _ => false
  | sc, .zipT a b, tg, x => match vCall x with
    | some (n, [y, z]) => ((vTup tg).isSome && (decide (n = "zip") && (freeB c sc "zip" && (notStar y && notStar z)))) && (chkE c sc a y && chkE c sc b z)
    | _ => false
  | sc, .zipS a b, tg, x => match vZipS x with
    | some (y, z) => ((vTup tg).isSome && (freeB c sc "zip" && (notStar y && notStar z))) && (chkE c sc a y && chkE c sc b z)
    | none => false
end
end Mi
end
section
set_option linter.all false
set_option maxRecDepth 100000
set_option Elab.async false
set_option maxHeartbeats 1000000
/-! zip of two texts, as long as the shorter one. -/
namespace Mi.Zn
open PySem
open Mi.Z (Apart nextOrEnd_item nextOrEnd_end)
open PySem.Sem (wp)
abbrev IsZipB (h : Heap) (z TI TO : Addr) (f0 : Value) : Prop :=
  h.get? z = some { cls := .type "zip", dict := none, data := .fields #[f0, .bool false, .bool false, .ref TI, .ref TO], slots := #[] }
section
variable {prog : Program} {w : World} {A : Around} {E : Value → Shared → Prop} {s : Shared}
theorem draw_item {it : Addr} {x : Str} {t : Tok} {i c : Nat} {Q : Option Value → Shared → Prop} (hit : s.heap.IsStrIter it "str_ascii_iterator" x t i) (hx : x.cps[i]? = some c)
    (hQ : ∀ h', h'.IsStrIter it "str_ascii_iterator" x t (i + 1) → Heap.SameBut it s.heap h' → Q (some (.str ⟨#[c]⟩ s.toks)) { s with heap := h', toks := s.toks + 1 }) :
    wpAny (model prog w) A (do let v ← Builtin.SmallTypes.nextOf (.ref it); pure (some v)) Q E s :=
  wpAny_bind (wpAny_nextOf_ascii_item hit hx fun h' a b => wpAny_pure (hQ h' a b))
theorem next_item {z TI TO i1 i2 : Addr} {k1 k2 c1 c2 : Nat} {x y : Str} {t u : Tok} {a b : Value} {Q : Value → Shared → Prop} (D : Apart z TI TO i1 i2)
    (hz : IsZipB s.heap z TI TO .none) (hTI : IsPair s.heap TI (.ref i1) (.ref i2)) (hTO : IsPair s.heap TO a b)
    (h1 : s.heap.IsStrIter i1 "str_ascii_iterator" x t k1) (h2 : s.heap.IsStrIter i2 "str_ascii_iterator" y u k2) (hx : x.cps[k1]? = some c1) (hy : y.cps[k2]? = some c2)
    (hQ : ∀ h' t1 t2, IsZipB h' z TI TO (rawInt s.heap.objs.size) → IsPair h' TO (.str ⟨#[c1]⟩ t1) (.str ⟨#[c2]⟩ t2) → h'.IsStrIter i1 "str_ascii_iterator" x t (k1 + 1) → h'.IsStrIter i2 "str_ascii_iterator" y u (k2 + 1) → IsPair h' s.heap.objs.size (.str ⟨#[c1]⟩ t1) (.str ⟨#[c2]⟩ t2) → h'.objs.size = s.heap.objs.size + 1 →
      (∀ c o, c ≠ z → c ≠ TO → c ≠ i1 → c ≠ i2 → s.heap.get? c = some o → h'.get? c = some o) → Q (.ref s.heap.objs.size) { s with heap := h', toks := s.toks + 2 }) :
    wpAny (model prog w) A (Builtin.«zip.__next__» ⟨[.ref z], []⟩) (fun fin s' => ∃ v, fin = .done (.ret v) ∧ Q v s') E s := by
  show wpAny _ _ (field (.ref z) 2 >>= _) _ _ _
  refine wpAny_bind (wpAny_field hz rfl (x := .bool false) rfl ?_)
  show wpAny _ _ (field (.ref z) 3 >>= _) _ _ _
  refine wpAny_bind (wpAny_field hz rfl (x := .ref TI) rfl ?_)
  refine wpAny_bind (wpAny_seqItems hTI rfl ?_)
  show wpAny _ _ (Builtin.SmallTypes.ownedTupleIsFree (.ref z) >>= _) _ _ _
  refine wpAny_bind ?_
  unfold Builtin.SmallTypes.ownedTupleIsFree
  refine wpAny_bind (wpAny_field hz rfl (x := .none) rfl (wpAny_pure ?_))
  simp only [if_true]
  refine wpAny_bind (wpAny_rule ?_)
  refine wpAny_bind (wpAny_field hz rfl (x := .ref TO) rfl ?_)
  refine wpAny_bind (wpAny_setField_rec hz (by simp) fun h₁ hz₁ hs₁ => ?_)
  replace hz₁ : IsZipB h₁ z TI TO .ellipsis := hz₁
  refine wpAny_bind ?_
  simp only [List.zipIdx_cons, List.zipIdx_nil, List.forIn_cons, List.forIn_nil]
  refine wpAny_bind (wpAny_bind (wpAny_onRaise ?_))
  show wpAny _ _ (do let v ← Builtin.SmallTypes.nextOf (.ref i1); pure (some v)) _ _ _
  refine draw_item (h1.extBut hs₁.extBut D.i1z) hx fun h₂ h1₂ hs₂ => ?_
  have hTO₂ : IsPair h₂ TO a b := hs₂.extBut _ _ D.TOi1 (hs₁.extBut _ _ D.TOz hTO)
  refine wpAny_bind (wpAny_seqItems hTO₂ rfl ?_)
  refine wpAny_bind (wpAny_updateSeq_pair hTO₂ fun h₃ hTO₃ hs₃ => ?_)
  replace hTO₃ : IsPair h₃ TO (.str ⟨#[c1]⟩ s.toks) b := hTO₃
  refine wpAny_bind (wpAny_letGo (wpAny_pure ?_))

  refine wpAny_bind (wpAny_bind (wpAny_onRaise ?_))
  show wpAny _ _ (do let v ← Builtin.SmallTypes.nextOf (.ref i2); pure (some v)) _ _ _
  refine draw_item (((h2.extBut hs₁.extBut D.i2z).extBut hs₂.extBut D.i12.symm).extBut hs₃.extBut D.TOi2.symm) hy fun h₄ h2₄ hs₄ => ?_
  have hTO₄ : IsPair h₄ TO (.str ⟨#[c1]⟩ s.toks) b := hs₄.extBut _ _ D.TOi2 hTO₃
  refine wpAny_bind (wpAny_seqItems hTO₄ rfl ?_)
  refine wpAny_bind (wpAny_updateSeq_pair hTO₄ fun h₅ hTO₅ hs₅ => ?_)
  replace hTO₅ : IsPair h₅ TO (.str ⟨#[c1]⟩ s.toks) (.str ⟨#[c2]⟩ (s.toks + 1)) := hTO₅
  refine wpAny_bind (wpAny_letGo (wpAny_pure (wpAny_pure ?_)))

  refine wpAny_bind (wpAny_seqItems hTO₅ rfl ?_)
  refine wpAny_bind (wpAny_newTuple ?_)
  have hsz : h₅.objs.size = s.heap.objs.size := by rw [hs₅.1, hs₄.1, hs₃.1, hs₂.1, hs₁.1]
  have hz₅ : IsZipB h₅ z TI TO .ellipsis := hs₅.extBut _ _ D.TOz.symm (hs₄.extBut _ _ D.i2z.symm (hs₃.extBut _ _ D.TOz.symm (hs₂.extBut _ _ D.i1z.symm hz₁)))
  have hk₅ : ∀ c o, c ≠ z → c ≠ TO → c ≠ i1 → c ≠ i2 → s.heap.get? c = some o → h₅.get? c = some o := fun c o c1 c2 c3 c4 e =>
    hs₅.extBut _ _ c2 (hs₄.extBut _ _ c4 (hs₃.extBut _ _ c2 (hs₂.extBut _ _ c3 (hs₁.extBut _ _ c1 e))))
  have h1₅ : h₅.IsStrIter i1 "str_ascii_iterator" x t (k1 + 1) := ((h1₂.extBut hs₃.extBut D.TOi1.symm).extBut hs₄.extBut D.i12).extBut hs₅.extBut D.TOi1.symm
  have h2₅ : h₅.IsStrIter i2 "str_ascii_iterator" y u (k2 + 1) := h2₄.extBut hs₅.extBut D.TOi2.symm
  have hzlt : z < h₅.objs.size := Heap.lt_size hz₅
  show wpAny _ _ (Builtin.SmallTypes.ownedTupleHandOut (.ref z) (.ref h₅.objs.size) >>= _) _ _ _
  refine wpAny_bind ?_
  unfold Builtin.SmallTypes.ownedTupleHandOut
  have hz₆ : IsZipB (h₅.push { cls := .type "tuple", data := .seq #[.str ⟨#[c1]⟩ s.toks, .str ⟨#[c2]⟩ (s.toks + 1)] }) z TI TO .ellipsis := Heap.get?_push_of_some _ hz₅
  refine wpAny_bind (wpAny_setField_rec hz₆ (by simp) fun h₇ hz₇ hs₇ => ?_)
  replace hz₇ : IsZipB h₇ z TI TO (rawInt h₅.objs.size) := hz₇
  refine wpAny_setField_rec hz₇ (by simp) fun h₈ hz₈ hs₈ => ?_
  replace hz₈ : IsZipB h₈ z TI TO (rawInt h₅.objs.size) := hz₈
  have up : ∀ c o, c ≠ z → h₅.get? c = some o → h₈.get? c = some o := fun c o c1 e => hs₈.extBut _ _ c1 (hs₇.extBut _ _ c1 (Heap.get?_push_of_some _ e))
  have hT₈ : IsPair h₈ h₅.objs.size (.str ⟨#[c1]⟩ s.toks) (.str ⟨#[c2]⟩ (s.toks + 1)) := hs₈.extBut _ _ (Nat.ne_of_gt hzlt) (hs₇.extBut _ _ (Nat.ne_of_gt hzlt) (Heap.get?_push_size _ rfl))
  have hz8 : h₈.objs.size = h₅.objs.size + 1 := by rw [hs₈.1, hs₇.1, Heap.size_push]
  rw [hsz] at hz₈ hT₈ hz8
  refine wpAny_pure ⟨_, rfl, ?_⟩
  show Q (.ref h₅.objs.size) _
  rw [hsz]
  exact hQ h₈ _ _ hz₈ (up _ _ D.TOz hTO₅) (let ⟨o, e, r⟩ := h1₅; ⟨o, up _ _ D.i1z e, r⟩) (let ⟨o, e, r⟩ := h2₅; ⟨o, up _ _ D.i2z e, r⟩) hT₈ hz8 fun c o c1 c2 c3 c4 e => up c o c1 (hk₅ c o c1 c2 c3 c4 e)
theorem next_end {z TI TO i1 i2 : Addr} {k1 k2 : Nat} {x y : Str} {t u : Tok} {a b : Value} {Q : PySem.Fin → Shared → Prop} (hh : A.handled = none) (D : Apart z TI TO i1 i2)
    (hz : IsZipB s.heap z TI TO .none) (hTI : IsPair s.heap TI (.ref i1) (.ref i2)) (hTO : IsPair s.heap TO a b)
    (h1 : s.heap.IsStrIter i1 "str_ascii_iterator" x t k1) (h2 : s.heap.IsStrIter i2 "str_ascii_iterator" y u k2) (hx : x.cps[k1]? = none ∨ ∃ c1, x.cps[k1]? = some c1 ∧ y.cps[k2]? = none)
    (hE : ∀ h' n e, s.toks ≤ n → (∀ c o, c ≠ z → c ≠ TO → c ≠ i1 → c ≠ i2 → s.heap.get? c = some o → h'.get? c = some o) → (∃ o, h'.get? e = some o ∧ o.cls = .type "StopIteration") → E (.ref e) { s with heap := h', toks := n }) :
    wpAny (model prog w) A (Builtin.«zip.__next__» ⟨[.ref z], []⟩) Q E s := by
  show wpAny _ _ (field (.ref z) 2 >>= _) _ _ _
  refine wpAny_bind (wpAny_field hz rfl (x := .bool false) rfl ?_)
  show wpAny _ _ (field (.ref z) 3 >>= _) _ _ _
  refine wpAny_bind (wpAny_field hz rfl (x := .ref TI) rfl ?_)
  refine wpAny_bind (wpAny_seqItems hTI rfl ?_)
  show wpAny _ _ (Builtin.SmallTypes.ownedTupleIsFree (.ref z) >>= _) _ _ _
  refine wpAny_bind ?_
  unfold Builtin.SmallTypes.ownedTupleIsFree
  refine wpAny_bind (wpAny_field hz rfl (x := .none) rfl (wpAny_pure ?_))
  simp only [if_true]
  refine wpAny_bind (wpAny_rule ?_)
  refine wpAny_bind (wpAny_field hz rfl (x := .ref TO) rfl ?_)
  refine wpAny_bind (wpAny_setField_rec hz (by simp) fun h₁ hz₁ hs₁ => ?_)
  replace hz₁ : IsZipB h₁ z TI TO .ellipsis := hz₁
  refine wpAny_bind ?_
  simp only [List.zipIdx_cons, List.zipIdx_nil, List.forIn_cons, List.forIn_nil]
  refine wpAny_bind (wpAny_bind (wpAny_onRaise ?_))
  show wpAny _ _ (do let v ← Builtin.SmallTypes.nextOf (.ref i1); pure (some v)) _ _ _
  rcases hx with hx | ⟨c1, hx, hy⟩
  · refine wpAny_bind (wpAny_nextOf_ascii_end hh (h1.extBut hs₁.extBut D.i1z) hx fun h₂ e hs₂ he => ?_)
    have hz₂ : IsZipB h₂ z TI TO .ellipsis := hs₂ _ _ D.i1z.symm hz₁
    refine wpAny_setField_rec hz₂ (by simp) fun h₃ hz₃ hs₃ => ?_
    obtain ⟨o, ho, hc⟩ := he
    have ez : e ≠ z := fun q => by
      rw [q] at ho
      have q2 : some o = some _ := ho.symm.trans hz₂
      injection q2 with q3
      rw [q3] at hc
      injection hc with hc1
      exact absurd hc1 (by decide)
    exact hE h₃ _ e (Nat.le_refl _) (fun c o c1 c2 c3 c4 q => hs₃.extBut _ _ c1 (hs₂ _ _ c3 (hs₁.extBut _ _ c1 q))) ⟨o, hs₃.extBut _ _ ez ho, hc⟩
  · refine draw_item (h1.extBut hs₁.extBut D.i1z) hx fun h₂ h1₂ hs₂ => ?_
    have hTO₂ : IsPair h₂ TO a b := hs₂.extBut _ _ D.TOi1 (hs₁.extBut _ _ D.TOz hTO)
    refine wpAny_bind (wpAny_seqItems hTO₂ rfl ?_)
    refine wpAny_bind (wpAny_updateSeq_pair hTO₂ fun h₃ hTO₃ hs₃ => ?_)
    replace hTO₃ : IsPair h₃ TO (.str ⟨#[c1]⟩ s.toks) b := hTO₃
    refine wpAny_bind (wpAny_letGo (wpAny_pure ?_))
    refine wpAny_bind (wpAny_bind (wpAny_onRaise ?_))
    show wpAny _ _ (do let v ← Builtin.SmallTypes.nextOf (.ref i2); pure (some v)) _ _ _
    refine wpAny_bind (wpAny_nextOf_ascii_end hh (((h2.extBut hs₁.extBut D.i2z).extBut hs₂.extBut D.i12.symm).extBut hs₃.extBut D.TOi2.symm) hy fun h₄ e hs₄ he => ?_)
    have hz₄ : IsZipB h₄ z TI TO .ellipsis := hs₄ _ _ D.i2z.symm (hs₃.extBut _ _ D.TOz.symm (hs₂.extBut _ _ D.i1z.symm hz₁))
    refine wpAny_setField_rec hz₄ (by simp) fun h₅ hz₅ hs₅ => ?_
    obtain ⟨o, ho, hc⟩ := he
    have ez : e ≠ z := fun q => by
      rw [q] at ho
      have q2 : some o = some _ := ho.symm.trans hz₄
      injection q2 with q3
      rw [q3] at hc
      injection hc with hc1
      exact absurd hc1 (by decide)
    exact hE h₅ _ e (Nat.le_succ _) (fun c o c1 c2 c3 c4 q => hs₅.extBut _ _ c1 (hs₄ _ _ c4 (hs₃.extBut _ _ c2 (hs₂.extBut _ _ c3 (hs₁.extBut _ _ c1 q))))) ⟨o, hs₅.extBut _ _ ez ho, hc⟩
theorem pyNext_item {z TI TO i1 i2 : Addr} {k1 k2 c1 c2 : Nat} {x y : Str} {t u : Tok} {a b : Value} {Q : Option Value → Shared → Prop} (D : Apart z TI TO i1 i2)
    (hz : IsZipB s.heap z TI TO .none) (hTI : IsPair s.heap TI (.ref i1) (.ref i2)) (hTO : IsPair s.heap TO a b)
    (h1 : s.heap.IsStrIter i1 "str_ascii_iterator" x t k1) (h2 : s.heap.IsStrIter i2 "str_ascii_iterator" y u k2) (hx : x.cps[k1]? = some c1) (hy : y.cps[k2]? = some c2)
    (hQ : ∀ h' t1 t2, IsZipB h' z TI TO (rawInt s.heap.objs.size) → IsPair h' TO (.str ⟨#[c1]⟩ t1) (.str ⟨#[c2]⟩ t2) → h'.IsStrIter i1 "str_ascii_iterator" x t (k1 + 1) → h'.IsStrIter i2 "str_ascii_iterator" y u (k2 + 1) → IsPair h' s.heap.objs.size (.str ⟨#[c1]⟩ t1) (.str ⟨#[c2]⟩ t2) → h'.objs.size = s.heap.objs.size + 1 →
      (∀ c o, c ≠ z → c ≠ TO → c ≠ i1 → c ≠ i2 → s.heap.get? c = some o → h'.get? c = some o) → Q (some (.ref s.heap.objs.size)) { s with heap := h', toks := s.toks + 2 }) :
    wpAny (model prog w) A (pyNext (.ref z)) Q E s := by
  have hT : s.TypeIs (.ref z) "zip" := ⟨_, hz, rfl⟩
  unfold pyNext
  exact wpAny_bind (wpAny_attempt (wpAny_callSpecial?_slot (name := Str.ofString "__next__") hT F.slot_zip_next
    (wpAny_call_entry F.slot_zip_next hT F.entry_zip_next
      (next_item D hz hTI hTO h1 h2 hx hy fun h' t1 t2 a1 a2 a3 a4 a5 a6 a7 => wpAny_pure (hQ h' t1 t2 a1 a2 a3 a4 a5 a6 a7)) (F.args_zip_next_1 _))))
theorem pyNext_end {z TI TO i1 i2 : Addr} {k1 k2 : Nat} {x y : Str} {t u : Tok} {a b : Value} {Q : Option Value → Shared → Prop} (hh : A.handled = none) (D : Apart z TI TO i1 i2)
    (hz : IsZipB s.heap z TI TO .none) (hTI : IsPair s.heap TI (.ref i1) (.ref i2)) (hTO : IsPair s.heap TO a b)
    (h1 : s.heap.IsStrIter i1 "str_ascii_iterator" x t k1) (h2 : s.heap.IsStrIter i2 "str_ascii_iterator" y u k2) (hx : x.cps[k1]? = none ∨ ∃ c1, x.cps[k1]? = some c1 ∧ y.cps[k2]? = none)
    (hQ : ∀ h' n, s.toks ≤ n → (∀ c o, c ≠ z → c ≠ TO → c ≠ i1 → c ≠ i2 → s.heap.get? c = some o → h'.get? c = some o) → Q none { s with heap := h', toks := n }) : wpAny (model prog w) A (pyNext (.ref z)) Q E s := by
  have hT : s.TypeIs (.ref z) "zip" := ⟨_, hz, rfl⟩
  unfold pyNext
  refine wpAny_bind (wpAny_attempt (wpAny_callSpecial?_slot (name := Str.ofString "__next__") hT F.slot_zip_next
    (wpAny_call_entry F.slot_zip_next hT F.entry_zip_next (next_end hh D hz hTI hTO h1 h2 hx fun h' n e hn hk he => ?_) (F.args_zip_next_1 _))))
  obtain ⟨o, ho, hc⟩ := he
  refine wpAny_bind (wpAny_isInstance (T := "StopIteration") (b := true) ⟨o, ho, hc⟩ isSubtype_stop ?_)
  exact wpAny_pure (hQ _ _ hn hk)
theorem go_zip {elts : List Expr} {x1} {pos : Pos} {z TI TO T : Addr} {Q : Unit → Shared → Prop} (hz : IsZipB s.heap z TI TO (rawInt T))
    (hQ : ∀ h', IsZipB h' z TI TO .none → Heap.SameBut z s.heap h' → Q () { s with heap := h' }) :
    wpAny (model prog w) A (letOwnedTupleGo (.Tuple elts x1 pos) (.ref z) (.ref T)) Q E s := by
  unfold letOwnedTupleGo
  refine wpAny_bind (wpAny_load hz ?_)
  show wpAny _ _ (if (["enumerate", "zip", "dict_itemiterator", "dict_reverseitemiterator", "odict_iterator", "itertools.zip_longest", "itertools.pairwise"].contains "zip" &&
      (#[rawInt T, .bool false, .bool false, .ref TI, .ref TO] : Array Value)[0]? == some (rawInt T)) = true then _ else _) Q E s
  rw [if_pos (by simp)]
  refine wpAny_bind (wpAny_rule ?_)
  show wpAny _ _ (setField (.ref z) 0 .none) Q E s
  exact wpAny_setField_rec hz (by simp) fun h' hz' hs' => hQ h' hz' hs'
theorem pyIter_zip {z TI TO : Addr} {f0 : Value} {Q : Value → Shared → Prop} (hz : IsZipB s.heap z TI TO f0) (h : Q (.ref z) s) : wpAny (model prog w) A (pyIter (.ref z)) Q E s := by
  have hT : s.TypeIs (.ref z) "zip" := ⟨_, hz, rfl⟩
  refine wpAny_pyIter_slot hT F.slot_zip_iter (wpAny_call_entry F.slot_zip_iter hT F.entry_zip_iter ?_ (F.args_zip_iter_1 _))
  show wpAny _ _ (ret (.ref z)) _ _ s
  exact wpAny_pure ⟨_, rfl, "zip", _, hT, F.slot_zip_next.lookup, h⟩
end
abbrev zH1 (h : Heap) (x : Str) (t : Tok) : Heap := h.push { cls := .type "str_ascii_iterator", data := .fields #[.str x t, .int 0 0] }
abbrev zH2 (h : Heap) (x : Str) (t : Tok) (y : Str) (u : Tok) : Heap := (zH1 h x t).push { cls := .type "str_ascii_iterator", data := .fields #[.str y u, .int 0 0] }
abbrev zH3 (h : Heap) (x : Str) (t : Tok) (y : Str) (u : Tok) : Heap := (zH2 h x t y u).push { cls := .type "tuple", data := .seq #[.ref h.objs.size, .ref (zH1 h x t).objs.size] }
abbrev zH4 (h : Heap) (x : Str) (t : Tok) (y : Str) (u : Tok) : Heap := (zH3 h x t y u).push { cls := .type "tuple", data := .seq #[.none, .none] }
abbrev zH5 (h : Heap) (x : Str) (t : Tok) (y : Str) (u : Tok) : Heap := (zH4 h x t y u).push { cls := .type "zip", data := .fields #[.none, .bool false, .bool false, .ref (zH2 h x t y u).objs.size, .ref (zH3 h x t y u).objs.size] }
theorem typeCall_zip_s (a b : Value) : checkTypeCall "zip" ⟨[a, b], []⟩ = pure () := by kernel_rfl
theorem newCall_zip_s (a b : Value) : checkBuiltinCall "zip.__new__" ⟨[.type "zip", a, b], []⟩ = pure () := by kernel_rfl
theorem args_object_init_s (a b c : Value) : argsOk "object.__init__" ⟨[a, b, c], []⟩ := by
  unfold argsOk; kernel_rfl
theorem meets_zip_newB (x y : Str) (t u : Tok) (hx : x.cps.all (· < 128) = true) (hy : y.cps.all (· < 128) = true) :
    Meets (Builtin.«zip.__new__» ⟨[.type "zip", .str x t, .str y u], []⟩) (fun _ R s =>
      R (.ok (.ret (.ref (zH4 s.heap x t y u).objs.size))) { s with heap := zH5 s.heap x t y u }) :=
  .of_wp fun prog w A R s h => by
    obtain ⟨hp, g, d, tk, os⟩ := s
    have hsub := sub_zip
    have e1 : (Str.ofString "strict" == ("strict" : Str)) = true := by decide +kernel
    have e2 : (Str.ofString "strict" != ("strict" : Str)) = false := by decide +kernel
    wp_walk using wpAny_pyIter_ascii hx, wpAny_pyIter_ascii hy
    exact ⟨_, rfl, h⟩
end Mi.Zn
end
section
set_option linter.all false
set_option maxRecDepth 100000
set_option Elab.async false
set_option maxHeartbeats 1000000
/-! zip of two texts, as long as the shorter one: walked. -/
namespace Mi.Zn
open PySem PySem.Spec PyProof.Rows L2
open Mi.Z (Apart apart_of callWith_typeK)
section
variable {prog : Program} {w : World} {A : Around} {E : Value → Shared → Prop} {s : Shared}
theorem call_zip {x y : Str} {t u : Tok} {Q : Value → Shared → Prop} (hx : x.cps.all (· < 128) = true) (hy : y.cps.all (· < 128) = true)
    (h : ∀ h', IsZipB h' (s.heap.objs.size + 4) (s.heap.objs.size + 2) (s.heap.objs.size + 3) .none → IsPair h' (s.heap.objs.size + 2) (.ref s.heap.objs.size) (.ref (s.heap.objs.size + 1)) →
      IsPair h' (s.heap.objs.size + 3) .none .none → h'.IsStrIter s.heap.objs.size "str_ascii_iterator" x t 0 → h'.IsStrIter (s.heap.objs.size + 1) "str_ascii_iterator" y u 0 → h'.objs.size = s.heap.objs.size + 5 →
      (∀ c o, s.heap.get? c = some o → h'.get? c = some o) → Q (.ref (s.heap.objs.size + 4)) { s with heap := h' }) :
    wpAny (model prog w) A (PySem.call (.type "zip") [.str x t, .str y u] []) Q E s := by
  refine callType_newKw F.called_zip (by decide) (typeCall_zip_s _ _) (newCall_zip_s _ _) (fun obj => args_object_init_s obj _ _) F.entry_zip_new (meets_zip_newB x y t u hx hy) ?_
  have z1 : (zH1 s.heap x t).objs.size = s.heap.objs.size + 1 := Heap.size_push ..
  have z2 : (zH2 s.heap x t y u).objs.size = s.heap.objs.size + 2 := by rw [Heap.size_push, z1]
  have z3 : (zH3 s.heap x t y u).objs.size = s.heap.objs.size + 3 := by rw [Heap.size_push, z2]
  have z4 : (zH4 s.heap x t y u).objs.size = s.heap.objs.size + 4 := by rw [Heap.size_push, z3]
  have z5 : (zH5 s.heap x t y u).objs.size = s.heap.objs.size + 5 := by rw [Heap.size_push, z4]
  have g5 : (zH5 s.heap x t y u).get? (zH4 s.heap x t y u).objs.size = some _ := Heap.get?_push_size _ rfl
  have g4 : (zH5 s.heap x t y u).get? (zH3 s.heap x t y u).objs.size = some _ := Heap.get?_push_of_some _ (Heap.get?_push_size _ rfl)
  have g3 : (zH5 s.heap x t y u).get? (zH2 s.heap x t y u).objs.size = some _ := Heap.get?_push_of_some _ (Heap.get?_push_of_some _ (Heap.get?_push_size _ rfl))
  have g2 : (zH5 s.heap x t y u).get? (zH1 s.heap x t).objs.size = some _ := Heap.get?_push_of_some _ (Heap.get?_push_of_some _ (Heap.get?_push_of_some _ (Heap.get?_push_size _ rfl)))
  have g1 : (zH5 s.heap x t y u).get? s.heap.objs.size = some _ := Heap.get?_push_of_some _ (Heap.get?_push_of_some _ (Heap.get?_push_of_some _ (Heap.get?_push_of_some _ (Heap.get?_push_size _ rfl))))
  show _ ∧ _
  rw [z2, z3, z4] at g5
  rw [z1, z2] at g3
  rw [z3] at g4
  rw [z1] at g2
  rw [z4]
  exact ⟨⟨_, g5, rfl⟩, h _ g5 g3 g4 ⟨_, g1, rfl, rfl⟩ ⟨_, g2, rfl, rfl⟩ z5 fun c o x =>
    Heap.get?_push_of_some _ (Heap.get?_push_of_some _ (Heap.get?_push_of_some _ (Heap.get?_push_of_some _ (Heap.get?_push_of_some _ x))))⟩
end
/-- the texts x, y, the signs in new pairs -/
def Itzs (x y : Str) : It :=
  ⟨fun i _ => i < x.cps.size ∧ i < y.cps.size, fun i H v H' => ∃ T c d, v = .ref T ∧ H T = none ∧ H' = upd H T (.tup [.str ⟨#[c]⟩, .str ⟨#[d]⟩]) ∧ x.cps[i]? = some c ∧ y.cps[i]? = some d, fun i _ => i = min x.cps.size y.cps.size⟩
theorem turn_zs {P : Program} {w : World} {K : PySem.W.Frag} {elts : List Expr} {kk : Nat} {tpos : Pos} {x y : Str} {t u : Tok} {z TI TO i1 i2 : Addr} (D : Apart z TI TO i1 i2) :
    Turn P w K (.Tuple elts kk tpos) (Itzs x y) [z, TI, TO, i1, i2] z (fun i h => IsZipB h z TI TO .none ∧ IsPair h TI (.ref i1) (.ref i2) ∧ (∃ a b, IsPair h TO a b) ∧ h.IsStrIter i1 "str_ascii_iterator" x t i ∧ h.IsStrIter i2 "str_ascii_iterator" y u i) where
  mem := by simp
  obj := fun i h st c hc => by
    obtain ⟨hz, hTI, ⟨a, b, hTO⟩, ⟨o1, e1, _, d1⟩, ⟨o2, e2, _, d2⟩⟩ := st
    have e' : c = z ∨ c = TI ∨ c = TO ∨ c = i1 ∨ c = i2 := by simpa using hc
    rcases e' with q | q | q | q | q
    · rw [q]; exact ⟨_, hz, fun v q => nomatch q⟩
    · rw [q]; exact ⟨_, hTI, fun v q => nomatch q⟩
    · rw [q]; exact ⟨_, hTO, fun v q => nomatch q⟩
    · rw [q]; exact ⟨o1, e1, fun v q => by rw [d1] at q; cases q⟩
    · rw [q]; exact ⟨o2, e2, fun v q => by rw [d2] at q; cases q⟩
  keep := fun i h h' st k => by
    obtain ⟨hz, hTI, ⟨a, b, hTO⟩, ⟨o1, e1, r1⟩, ⟨o2, e2, r2⟩⟩ := st
    exact ⟨k z (by simp) _ hz, k TI (by simp) _ hTI, ⟨a, b, k TO (by simp) _ hTO⟩, ⟨o1, k i1 (by simp) _ e1, r1⟩, ⟨o2, k i2 (by simp) _ e2, r2⟩⟩
  item := by
    intro X hP hw hK hc i pins s σ H E I hf st hg
    subst hP hw hK
    obtain ⟨hz, hTI, ⟨x0, y0, hTO⟩, h1, h2⟩ := st
    have hg1 : i < x.cps.size := hg.1
    have hx : x.cps[i]? = some x.cps[i] := by simp [hg1]
    have hg2 : i < y.cps.size := hg.2
    have hy : y.cps[i]? = some y.cps[i] := by simp [hg2]
    have hzl : z < s.heap.objs.size := Heap.lt_size hz
    refine pyNext_item D hz hTI hTO h1 h2 hx hy fun h' t1 t2 z' TO' h1' h2' hT hsz hk => ?_
    refine ⟨_, rfl, go_zip (s := { s with heap := h', toks := s.toks + 2 }) z' fun h'' z'' sb => ?_⟩
    have hT2 : h''.get? s.heap.objs.size = some { cls := .type "tuple", data := .seq #[.str ⟨#[x.cps[i]]⟩ t1, .str ⟨#[y.cps[i]]⟩ t2] } := (sb.2 _ (Nat.ne_of_gt hzl)).trans hT
    have new : ObjOk X.prog X.w (upd H s.heap.objs.size (.tup [.str ⟨#[x.cps[i]]⟩, .str ⟨#[y.cps[i]]⟩])) h'' s.heap.objs.size (.tup [.str ⟨#[x.cps[i]]⟩, .str ⟨#[y.cps[i]]⟩]) :=
      ⟨by show 2 ≤ sizeLine; decide, [.str ⟨#[x.cps[i]]⟩ t1, .str ⟨#[y.cps[i]]⟩ t2], .cons ⟨t1, rfl⟩ (.cons ⟨t2, rfl⟩ .nil), ⟨_, hT2, rfl, _, rfl⟩⟩
    have I1 : Inv X pins σ (upd H s.heap.objs.size (.tup [.str ⟨#[x.cps[i]]⟩, .str ⟨#[y.cps[i]]⟩])) { s with heap := h'', toks := s.toks + 2 } :=
      I.turnedNew (t' := s.toks + 2) (ch := [z, TI, TO, i1, i2]) (fun c o hb q => (sb.2 c (fun q' => hb (by simp [q']))).trans (hk c o (fun q' => hb (by simp [q'])) (fun q' => hb (by simp [q'])) (fun q' => hb (by simp [q'])) (fun q' => hb (by simp [q'])) q)) hf (Nat.le_refl _) new
    refine ⟨.ref s.heap.objs.size, _, I1, rfl, ⟨_, _, _, rfl, I.hok.fresh (Nat.le_refl _), rfl, hx, hy⟩, ⟨z'', ?_, ⟨.str ⟨#[x.cps[i]]⟩ t1, .str ⟨#[y.cps[i]]⟩ t2, ?_⟩, ?_, ?_⟩, fun c hcm => ?_⟩
    · exact (sb.2 _ D.TIz).trans (hk _ _ D.TIz D.TITO D.TIi1 D.TIi2 hTI)
    · exact (sb.2 _ D.TOz).trans TO'
    · obtain ⟨o, e, r⟩ := h1'
      exact ⟨o, (sb.2 _ D.i1z).trans e, r⟩
    · obtain ⟨o, e, r⟩ := h2'
      exact ⟨o, (sb.2 _ D.i2z).trans e, r⟩
    · have hlt : c < s.heap.objs.size := by
        have e' : c = z ∨ c = TI ∨ c = TO ∨ c = i1 ∨ c = i2 := by simpa using hcm
        rcases e' with q | q | q | q | q
        · rw [q]; exact hzl
        · rw [q]; exact Heap.lt_size hTI
        · rw [q]; exact Heap.lt_size hTO
        · rw [q]; obtain ⟨_, e1, _⟩ := h1; exact Heap.lt_size e1
        · rw [q]; obtain ⟨_, e2, _⟩ := h2; exact Heap.lt_size e2
      rw [upd_ne (Nat.ne_of_lt hlt)]
      exact (hf c hcm).1
  done := by
    intro X hP hw hK hc i pins s σ H E I hf st hg
    subst hP hw hK
    obtain ⟨hz, hTI, ⟨x0, y0, hTO⟩, h1, h2⟩ := st
    have hg : i = min x.cps.size y.cps.size := hg
    have hx : x.cps[i]? = none ∨ ∃ c1, x.cps[i]? = some c1 ∧ y.cps[i]? = none := by
      by_cases h : i < x.cps.size
      · exact .inr ⟨x.cps[i], by simp [h], by
          have : y.cps.size ≤ i := by omega
          simp [this]⟩
      · exact .inl (by
          have : x.cps.size ≤ i := by omega
          simp [this])
    exact pyNext_end (I.ok.hd hc) D hz hTI hTO h1 h2 hx fun h' n hn hk => ⟨rfl, I.turnedL (t' := n) (ch := [z, TI, TO, i1, i2]) (fun c o hb q =>
      hk c o (fun q' => hb (by simp [q'])) (fun q' => hb (by simp [q'])) (fun q' => hb (by simp [q'])) (fun q' => hb (by simp [q'])) q) hf⟩
  self := fun A i s Q E st h => pyIter_zip st.1 h
theorem walk_zs {x y : Str} : Walk (Itzs x y) (min x.cps.size y.cps.size) (fun _ => True) (fun i H v H' => ∃ T c d, v = .ref T ∧ H T = none ∧ H' = upd H T (.tup [.str ⟨#[c]⟩, .str ⟨#[d]⟩]) ∧ x.cps[i]? = some c ∧ y.cps[i]? = some d) :=
  ⟨fun _ _ hi _ => ⟨by omega, by omega⟩, fun _ _ => rfl, fun _ _ _ _ _ _ y => y⟩
def iZs (ta : TA) : TI := fun σ H R => ta σ H fun vs H2 => ∃ x y : Str, vs = [.str x, .str y] ∧ x.cps.all (· < 128) = true ∧ y.cps.all (· < 128) = true ∧ R (Itzs x y) H2
theorem pi_zn {X : Cx} {e e2 : Expr} {ta : TA} {p pos tpos : Pos} {elts : List Expr} {kk : Nat} (hg : Gl X "zip") (hm : X.mg "zip" = none) (ha : PA X [e, e2] ta)
    (hs : starEach [e, e2] X.env = (false, eval e X.env) :: starEach [e2] X.env) (hpl : (backTo pos (starEach [e, e2] X.env)).any (·.1) = false) :
    PI X (.Tuple elts kk tpos) (.Call (.Name "zip" p) [e, e2] [] pos) (iZs ta) := by
  refine ⟨fun pins s σ H R I h => ?_⟩
  refine wpAny_Call_Name_kw (ld_blt I hg hm PyProof.Rows.boot_zip ?_)
  refine callWith_typeK hpl rfl ?_
  have hb : backTo pos (starEach [e, e2] X.env) = (false, eval e X.env) :: backTo pos (starEach [e2] X.env) := by rw [hs]; rfl
  have hr := ha.run pos pins s σ H _ I h
  rw [hb] at hr ⊢
  refine PyProof.Rows.evalArgs_kwB rfl (thn hr fun us s2 ⟨vs, H2, I2, r1, q2⟩ => wpAny_pure ?_)
  obtain ⟨x, y, rfl, hx, hy, q⟩ := q2
  cases r1 with
  | cons ra rr => cases rr with
    | cons rb rr =>
      cases rr
      obtain ⟨t, rfl⟩ := ra
      obtain ⟨u, rfl⟩ := rb
      refine call_zip hx hy fun h' hz hTI hTO h1 h2 hsz hkk => pyIter_zip hz ?_
      have I3 : Inv X pins σ H2 { s2 with heap := h' } := I2.kept (t' := s2.toks) hkk
      refine ⟨s2.heap.objs.size + 4, [s2.heap.objs.size + 4, s2.heap.objs.size + 2, s2.heap.objs.size + 3, s2.heap.objs.size, s2.heap.objs.size + 1], _, _, H2, rfl, I3, turn_zs (x := x) (y := y) (t := t) (u := u) (apart_of s2.heap.objs.size), ⟨hz, hTI, ⟨_, _, hTO⟩, h1, h2⟩, fun c hcm => ?_, q⟩
      have e' : c = s2.heap.objs.size + 4 ∨ c = s2.heap.objs.size + 2 ∨ c = s2.heap.objs.size + 3 ∨ c = s2.heap.objs.size ∨ c = s2.heap.objs.size + 1 := by simpa using hcm
      have hle : s2.heap.objs.size ≤ c := by
        rcases e' with z | z | z | z | z
        · rw [z]; exact Nat.le_add_right _ _
        · rw [z]; exact Nat.le_add_right _ _
        · rw [z]; exact Nat.le_add_right _ _
        · rw [z]; exact Nat.le_refl _
        · rw [z]; exact Nat.le_add_right _ _
      exact I2.fpOk hle (I2.hok.fresh hle)
end Mi.Zn
end
section
set_option linter.all false
set_option maxRecDepth 100000
set_option Elab.async false
set_option maxHeartbeats 1000000
/-! zip of two texts in the evaluator. -/
namespace Mi
open PySem PySem.Spec PyProof.Rows L2
section
variable {τ : Tbs} {pa : Pa τ} {K : PySem.W.Frag}
theorem wk_zt0 {x y : S} (hx : x.all (fun c => decide (c < 128)) = true) (hy : y.all (fun c => decide (c < 128)) = true) :
    Wk pa (Zn.Itzs ⟨x.toArray⟩ ⟨y.toArray⟩) (fun _ _ => True) (fun i H v H' => ∃ T c d, v = .ref T ∧ H T = none ∧ H' = upd H T (.tup [.str ⟨#[c]⟩, .str ⟨#[d]⟩]) ∧ x[i]? = some c ∧ y[i]? = some d) (zipL (strsL x) (strsL y)) where
  walk := fun B => by
    have w := Zn.walk_zs (x := ⟨x.toArray⟩) (y := ⟨y.toArray⟩)
    have e : min (⟨x.toArray⟩ : Str).cps.size (⟨y.toArray⟩ : Str).cps.size = (zipL (strsL x) (strsL y)).length := by
      rw [zip_len]
      simp [strsL]
    rw [e] at w
    exact w.mono (fun _ h => h) fun i H v H' _ _ ⟨T, c, d, h1, h2, h3, h4, h5⟩ => ⟨T, c, d, h1, h2, h3, by simpa using h4, by simpa using h5⟩
  gives := fun B i H v H' b hi g rm y => by
    obtain ⟨T, c, d, rfl, hT, rfl, h4, h5⟩ := y
    refine ⟨Ex.new hT, rm.hk.new hT, .tup [.str [c], .str [d]], ?_, ?_⟩
    · rw [zip_get]
      simp [strsL, h4, h5]
    · have hc : c < 128 := by simpa using List.all_eq_true.mp hx c (List.mem_of_getElem? h4)
      have hd : d < 128 := by simpa using List.all_eq_true.mp hy d (List.mem_of_getElem? h5)
      refine .tup upd_same (by show 2 ≤ line; decide) (.cons (.str [c] (by show 1 ≤ line; decide) ?_) (.cons (.str [d] (by show 1 ≤ line; decide) ?_) .nil))
      · have : c < 0x110000 := by omega
        simp [this]
      · have : d < 0x110000 := by omega
        simp [this]
  stays := fun _ _ _ _ g _ => g
end
section
variable {X : Cx} {c : Cfg} {W : WX} {pos : Pos} {a e : Expr} {fa fb : Ga → Tr D}
theorem pi_zipT' {elts : List Expr} {kk : Nat} {tpos p : Pos} (hg : Gl X "zip") (hm : X.mg "zip" = none) (ha : PE X a (tE X.K c W fa)) (hb : PE X e (tE X.K c W fb)) (hn : notStar a = true) (hn2 : notStar e = true) :
    PI X (.Tuple elts kk tpos) (.Call (.Name "zip" p) [a, e] [] pos) (tS X.K c W fun Γ => (fa Γ).bind fun x => (fb Γ).bind fun y => opZipT x y) := by
  have hst : [a, e].all notStar = true := by simp [hn, hn2]
  refine PI.imp (Zn.pi_zn hg hm (pa_cons ha (pa_cons hb pa_nil (starEach_of hn2)) (starEach_of hn)) (starEach_of hn) (star_any hst)) fun σ H R ⟨Γ, pa, B, b, o, h⟩ => ?_
  refine ⟨Γ, pa, B, b, o, Tr.wp_mono (fun b1 d h1 v H1 x kk r => ?_) (fun _ _ z => z) _ _ ((Tr.wp_bind _ _).mp h)⟩
  refine ⟨Γ, pa, B, b1, o.ex x kk, Tr.wp_mono (fun b2 d2 h2 v2 H2 x2 k2 r2 => ?_) (fun _ _ z => Er.ex z x) _ _ ((Tr.wp_bind _ _).mp h1)⟩
  have r1 := r.ex x2 (o.ex x kk).rm
  cases r1 with
  | str z hz hz2 => cases r2 with
    | str z' hz' hz2' =>
      simp only [opZipT] at h2
      split at h2
      · rename_i hh
        refine ⟨_, _, rfl, by simpa using hh.1, by simpa using hh.2, h2 _ _ _ H2 (x.trans x2) k2 (wk_zt0 hh.1 hh.2) True.intro⟩
      · exact h2.elim
    | _ => exact h2.elim
  | _ => cases r2 <;> exact h2.elim
end
end Mi
end
section
set_option linter.all false
set_option maxRecDepth 100000
set_option Elab.async false
set_option maxHeartbeats 2000000
/-! What the check promises. -/
namespace Mi
open PySem PySem.Spec PyProof.Rows L2
section
variable {X : Cx} {c : Cfg} {sc : Scope} {cl : Cl} {k : Nat} {W : WX} {pos : Pos} {a e : Expr} {fa fb fc : Ga → Tr D}
theorem pt_isB' {neg v : Bool} {j : Nat} {p : Pos} (ha : PE X a (tE X.K c W fa)) (op : CmpOp) (ho : op = match neg with | true => CmpOp.IsNot | false => CmpOp.Is) :
    PT X (.Compare a [op] [.Constant (.bool v) j p] pos) (tT X.K c W fun Γ => ((fa Γ).bind fun x => (asBool x).bind fun k => .ok (.bl (xor neg (k == v)))).bind truth) := by
  have go : ∀ {σ : L2.St} {H : Hp} {Q : Bool → Hp → Prop}, tT X.K c W (fun Γ => ((fa Γ).bind fun x => (asBool x).bind fun k => .ok (.bl (xor neg (k == v)))).bind truth) σ H Q → tE X.K c W fa σ H fun x H1 => ∃ k, x = .bl k ∧ Q (xor neg (k == v)) H1 := by
    intro σ H Q h
    obtain ⟨Γ, pa, B, b, o, h⟩ := h
    refine ⟨Γ, pa, B, b, o, Tr.wp_mono (fun b1 a h1 v H1 x kk r => ?_) (fun _ _ z => z) _ _ ((Tr.wp_bind _ _).mp ((Tr.wp_bind _ _).mp h))⟩
    obtain ⟨k, e1, e2, h2⟩ := asB r ((Tr.wp_bind _ _).mp h1)
    exact ⟨k, e1, h2 H1 x kk⟩
  have e1 : ∀ k : Bool, decide (k = v) = (k == v) := fun k => by cases k <;> cases v <;> rfl
  subst ho
  cases neg with
  | false =>
    refine PT.imp (pt_cmpR op_is_bl ha pe_bl (marks_of rfl)) fun σ H Q h => ?_
    refine (go h).mono fun x H1 ⟨k, e2, h⟩ => ⟨k, v, e2, rfl, ?_⟩
    rw [e1]
    exact ⟨_, rfl, by simpa using h⟩
  | true =>
    refine PT.imp (pt_cmpR op_isnot_bl ha pe_bl (marks_of rfl)) fun σ H Q h => ?_
    refine (go h).mono fun x H1 ⟨k, e2, h⟩ => ⟨k, v, e2, rfl, ?_⟩
    rw [e1]
    exact ⟨_, rfl, by simpa using h⟩
theorem pt_inTab' (F : Fc X.prog X.w X.K X.mg X.base c cl k) {neg : Bool} {t : Nat} {x : Str} {tb : List (S × S)} {p : Pos} (ht : c.tabs[t]? = some (x, tb)) (hg : Gl X x) (hx : okN x = true) (ha : PE X a (tE X.K c W fa)) (op : CmpOp) (ho : op = match neg with | true => CmpOp.NotIn | false => CmpOp.In) :
    PT X (.Compare a [op] [.Name x p] pos) (tT X.K c W fun Γ => ((fa Γ).bind fun x => (asStr x).bind fun k => .ok (.bl (xor neg (lookT (c.tb.getD t []) k).isSome))).bind truth) := by
  obtain ⟨ad, es, n, h1, h2, h3, h4, h5, h6⟩ := F.tabs t x tb ht
  rw [tb_get ht]
  subst ho
  have go : ∀ {σ : L2.St} {H : Hp} {Q : Bool → Hp → Prop}, tT X.K c W (fun Γ => ((fa Γ).bind fun x => (asStr x).bind fun k => .ok (.bl (xor neg (lookT tb k).isSome))).bind truth) σ H Q → tE X.K c W fa σ H fun v H1 => rInT X.K X.w neg v (.ref ad) H1 fun v H' => ∃ k, v = .bl k ∧ Q k H' := by
    intro σ H Q h
    obtain ⟨Γ, pa, B, b, o, h⟩ := h
    refine ⟨Γ, pa, B, b, o, Tr.wp_mono (fun b1 a h1 v H1 x kk r => ?_) (fun _ _ z => z) _ _ ((Tr.wp_bind _ _).mp ((Tr.wp_bind _ _).mp h))⟩
    obtain ⟨z, e1, e2, h7⟩ := asS r ((Tr.wp_bind _ _).mp h1)
    cases e : lookT tb z with
    | none =>
      rw [e] at h7
      exact ⟨_, ad, es, n, none, e1, rfl, h2, h3, h4, h6 z e, _, rfl, h7 H1 x kk⟩
    | some y =>
      rw [e] at h7
      obtain ⟨⟨u, h8, h9⟩, h10, h11⟩ := h5 z y e
      exact ⟨_, ad, es, n, some u, e1, rfl, h2, h3, h4, h8, _, rfl, h7 H1 x kk⟩
  cases neg with
  | false => exact PT.imp (pt_cmpR op_inT ha (pe_glob (v := .ref ad) hg h1 rfl (okN_ok hx).1) (marks_of rfl)) fun σ H Q h => go h
  | true => exact PT.imp (pt_cmpR op_notinT ha (pe_glob (v := .ref ad) hg h1 rfl (okN_ok hx).1) (marks_of rfl)) fun σ H Q h => go h
end
/-- what the check promises of an expression -/
def OkE (c : Cfg) (cl : Cl) (k : Nat) (ie : E) : Prop := ∀ (X : Cx) (sc : Scope) (W : WX) (ast : Expr), Gd X c sc cl k W → Fc X.prog X.w X.K X.mg X.base c cl k → chkE c sc ie ast = true →
  PE X ast (tE X.K c W (ev cl c.tb ie)) ∧ (notIf ast = true → PT X ast (tT X.K c W fun Γ => (ev cl c.tb ie Γ).bind truth)) ∧ (∀ o es p, ast = .BoolOp o es p → PW X ast (tT X.K c W fun Γ => (ev cl c.tb ie Γ).bind truth))
def OkEs (c : Cfg) (cl : Cl) (k : Nat) (ies : Es) : Prop := ∀ (X : Cx) (sc : Scope) (W : WX) (asts : List Expr), Gd X c sc cl k W → Fc X.prog X.w X.K X.mg X.base c cl k → chkEs c sc ies asts = true →
  PA X asts (tEs X.K c W (evs cl c.tb ies)) ∧ asts.all notStar = true ∧ asts.length = ies.toL.length
def OkS (c : Cfg) (cl : Cl) (k : Nat) (is : Src) : Prop := ∀ (X : Cx) (sc : Scope) (W : WX) (tg ast : Expr), Gd X c sc cl k W → Fc X.prog X.w X.K X.mg X.base c cl k → chkS c sc is tg ast = true →
  PI X tg ast (tS X.K c W (evS cl c.tb is))
section
variable {c : Cfg} {cl : Cl} {k : Nat}
/-- one whose text is no test of its own kind -/
theorem OkE.plain {ie : E} (h : ∀ (X : Cx) (sc : Scope) (W : WX) (ast : Expr), Gd X c sc cl k W → Fc X.prog X.w X.K X.mg X.base c cl k → chkE c sc ie ast = true → PE X ast (tE X.K c W (ev cl c.tb ie)) ∧ plainTest ast = true) : OkE c cl k ie := fun X sc W ast g F hc => by
  obtain ⟨h1, h2⟩ := h X sc W ast g F hc
  refine ⟨h1, fun _ => pt_tru h1 h2, fun o es p e => ?_⟩
  subst e
  cases h2
theorem freeB_ok {X : Cx} {sc : Scope} {W : WX} {x : Str} (g : Gd X c sc cl k W) (F : Fc X.prog X.w X.K X.mg X.base c cl k) (h : freeB c sc x = true) : Gl X x ∧ X.mg x = none := by
  have h' := Bool.and_eq_true_iff.mp h
  exact ⟨Gl_of g h'.2, F.free x (of_decide_eq_true h'.1)⟩
theorem ok_var (i : Nat) : OkE c cl k (.var i) := OkE.plain fun X sc W ast g F h => by
  simp only [chkE] at h
  split at h
  · rename_i x hx
    obtain ⟨p, rfl⟩ := vName_ok hx
    simp only [Bool.and_eq_true, decide_eq_true_eq] at h
    exact ⟨pe_var' g h.1 h.2.1 h.2.2, rfl⟩
  · cases h
theorem ok_cst (d : D) : OkE c cl k (.cst d) := OkE.plain fun X sc W ast g F h => by
  simp only [chkE] at h
  split at h
  · rename_i x hx
    obtain ⟨j, p, rfl⟩ := vConst_ok hx
    exact ⟨pe_const h, rfl⟩
  · split at h
    · rename_i x hx
      obtain ⟨p, rfl⟩ := vName_ok hx
      simp only [Bool.and_eq_true, List.any_eq_true, decide_eq_true_eq] at h
      obtain ⟨⟨⟨y, d'⟩, hm, e1, e2⟩, h2, h3⟩ := h
      cases e1
      have e3 := sameD_ok e2
      cases e3
      obtain ⟨u, v, h4, h5, h6⟩ := F.cons _ _ hm
      exact ⟨pe_cst (pe_glob (Gl_of g h2) h4 h5 (okN_ok h3).1) h6, rfl⟩
    · cases h
theorem ok_bin {o : BOp} {a b : E} (ia : OkE c cl k a) (ib : OkE c cl k b) : OkE c cl k (.bin o a b) := OkE.plain fun X sc W ast g F h => by
  simp only [chkE] at h
  split at h
  · rename_i x op y hx
    obtain ⟨p, rfl⟩ := vBin_ok hx
    simp only [Bool.and_eq_true] at h
    exact ⟨pe_bin' (opB_ok h.1) (ia X sc W x g F h.2.1).1 (ib X sc W y g F h.2.2).1, rfl⟩
  · cases h
theorem ok_neg {a : E} (ia : OkE c cl k a) : OkE c cl k (.neg a) := OkE.plain fun X sc W ast g F h => by
  simp only [chkE] at h
  split at h
  · rename_i x hx
    obtain ⟨p, rfl⟩ := vUn_ok hx
    exact ⟨pe_un' unR_neg (ia X sc W x g F h).1, rfl⟩
  · cases h
theorem ok_not {a : E} (ia : OkE c cl k a) : OkE c cl k (.not a) := fun X sc W ast g F h => by
  simp only [chkE] at h
  split at h
  · rename_i x hx
    obtain ⟨p, rfl⟩ := vUn_ok hx
    simp only [Bool.and_eq_true] at h
    obtain ⟨h1, h2, h3⟩ := ia X sc W x g F h.1
    exact ⟨pe_not' h1, fun _ => pt_not' (h2 h.2), fun o es p e => nomatch e⟩
  · cases h
theorem ok_and {a b : E} (ia : OkE c cl k a) (ib : OkE c cl k b) : OkE c cl k (.and a b) := fun X sc W ast g F h => by
  simp only [chkE] at h
  split at h
  · rename_i x y p hx
    have := vBool_ok hx
    subst this
    simp only [Bool.and_eq_true] at h
    obtain ⟨a1, a2, a3⟩ := ia X sc W x g F h.1.1
    obtain ⟨b1, b2, b3⟩ := ib X sc W y g F h.2.1
    have pw := pw_and' (pos := p) (a2 h.1.2) (pw_and1 (b2 h.2.2))
    exact ⟨pe_and' a1 (pe_one b1), fun _ => pw.pt, fun o es p e => pw⟩
  · rename_i x y z r p hx
    have := vBool_ok hx
    subst this
    simp only [Bool.and_eq_true] at h
    obtain ⟨a1, a2, a3⟩ := ia X sc W x g F h.1.1
    obtain ⟨b1, b2, b3⟩ := ib X sc W _ g F h.2
    have pw := pw_and' (pos := p) (a2 h.1.2) (b3 _ _ _ rfl)
    exact ⟨pe_and' a1 b1, fun _ => pw.pt, fun o es p e => pw⟩
  · cases h
theorem ok_or {a b : E} (ia : OkE c cl k a) (ib : OkE c cl k b) : OkE c cl k (.or a b) := fun X sc W ast g F h => by
  simp only [chkE] at h
  split at h
  · rename_i x y p hx
    have := vBool_ok hx
    subst this
    simp only [Bool.and_eq_true] at h
    obtain ⟨a1, a2, a3⟩ := ia X sc W x g F h.1.1
    obtain ⟨b1, b2, b3⟩ := ib X sc W y g F h.2.1
    have pw := pw_or' (pos := p) (a2 h.1.2) (pw_or1 (b2 h.2.2))
    exact ⟨pe_or' a1 (pe_one b1), fun _ => pw.pt, fun o es p e => pw⟩
  · rename_i x y z r p hx
    have := vBool_ok hx
    subst this
    simp only [Bool.and_eq_true] at h
    obtain ⟨a1, a2, a3⟩ := ia X sc W x g F h.1.1
    obtain ⟨b1, b2, b3⟩ := ib X sc W _ g F h.2
    have pw := pw_or' (pos := p) (a2 h.1.2) (b3 _ _ _ rfl)
    exact ⟨pe_or' a1 b1, fun _ => pw.pt, fun o es p e => pw⟩
  · cases h
theorem ok_cmp {o : COp} {a b : E} (ia : OkE c cl k a) (ib : OkE c cl k b) : OkE c cl k (.cmp o a b) := fun X sc W ast g F h => by
  simp only [chkE] at h
  split at h
  · rename_i x op y hx
    obtain ⟨p, rfl⟩ := vCmp_ok hx
    simp only [Bool.and_eq_true] at h
    have ho := cmpB_ok (τ := c.T X.K) g h.1.1
    have a1 := (ia X sc W x g F h.2.1).1
    have b1 := (ib X sc W y g F h.2.2).1
    exact ⟨pe_cmp' ho a1 b1 h.1.2, fun _ => pt_cmp' ho a1 b1 h.1.2, fun o es p e => nomatch e⟩
  · cases h
theorem ok_chain {o o' : COp} {a b d : E} (ia : OkE c cl k a) (ib : OkE c cl k b) (id : OkE c cl k d) : OkE c cl k (.chain o o' a b d) := fun X sc W ast g F h => by
  simp only [chkE] at h
  split at h
  · rename_i x op op' y z hx
    obtain ⟨p, rfl⟩ := vCmp_ok hx
    simp only [Bool.and_eq_true] at h
    have ho := cmpB_ok (τ := c.T X.K) g h.1.1
    have ho' := cmpB_ok (τ := c.T X.K) g h.1.2.1
    have a1 := (ia X sc W x g F h.2.1).1
    have b1 := (ib X sc W y g F h.2.2.1).1
    have d1 := (id X sc W z g F h.2.2.2).1
    exact ⟨pe_chain' ho ho' a1 b1 d1 h.1.2.2, fun _ => pt_chain' ho ho' a1 b1 d1 h.1.2.2, fun o es p e => nomatch e⟩
  · cases h
theorem ok_isN {neg : Bool} {a : E} (ia : OkE c cl k a) : OkE c cl k (.isN neg a) := fun X sc W ast g F h => by
  simp only [chkE] at h
  split at h
  · rename_i x op y hx
    obtain ⟨p, rfl⟩ := vCmp_ok hx
    simp only [Bool.and_eq_true] at h
    obtain ⟨j, p2, rfl⟩ := isNone_ok h.1.2
    have a1 := (ia X sc W x g F h.2).1
    exact ⟨pe_isN' a1 op (isOp_ok h.1.1), fun _ => pt_isN' a1 op (isOp_ok h.1.1), fun o es p e => nomatch e⟩
  · cases h
theorem ok_isB {neg v : Bool} {a : E} (ia : OkE c cl k a) : OkE c cl k (.isB neg v a) := fun X sc W ast g F h => by
  simp only [chkE] at h
  split at h
  · rename_i x op y hx
    obtain ⟨p, rfl⟩ := vCmp_ok hx
    simp only [Bool.and_eq_true] at h
    obtain ⟨j, p2, rfl⟩ := isBool_ok h.1.2
    have a1 := (ia X sc W x g F h.2).1
    exact ⟨pe_isB' a1 op (isOp_ok h.1.1), fun _ => pt_isB' a1 op (isOp_ok h.1.1), fun o es p e => nomatch e⟩
  · cases h
theorem ok_ife {t a b : E} (it : OkE c cl k t) (ia : OkE c cl k a) (ib : OkE c cl k b) : OkE c cl k (.ife t a b) := fun X sc W ast g F h => by
  simp only [chkE] at h
  split at h
  · rename_i x y z hx
    obtain ⟨p, rfl⟩ := vIf_ok hx
    simp only [Bool.and_eq_true] at h
    exact ⟨pe_if' ((it X sc W x g F h.1.1).2.1 h.1.2) (ia X sc W y g F h.2.1).1 (ib X sc W z g F h.2.2).1, (fun e => by cases e), (fun o es p e => by cases e)⟩
  · cases h
theorem ok_bad : OkE c cl k .bad := fun X sc W ast g F h => ⟨pe_bad, fun _ => pt_bad, fun o es p e => ⟨fun wh pins s σ H Q I ⟨_, _, _, _, _, h⟩ => h.elim⟩⟩
theorem hl_of {X : Cx} {sc : Scope} {W : WX} {ies : Es} {xs : List Expr} (h : xs.length = ies.toL.length) (hz : xs.length ≤ 1000) : ∀ Γ b P E, (evs cl c.tb ies Γ).wp b P E → (evs cl c.tb ies Γ).wp b (fun b ds => ds.length ≤ 1000 ∧ P b ds) E := fun Γ b P E z =>
  Tr.wp_mono (fun _ _ y => ⟨by rw [y.1, ← h]; exact hz, y.2⟩) (fun _ _ y => y) _ _ (evs_len z)
theorem ok_tup {es : Es} (is : OkEs c cl k es) : OkE c cl k (.tup es) := OkE.plain fun X sc W ast g F h => by
  simp only [chkE] at h
  split at h
  · rename_i xs hx
    obtain ⟨j, p, rfl⟩ := vTup_ok hx
    simp only [Bool.and_eq_true, decide_eq_true_eq] at h
    obtain ⟨h1, h2, h3⟩ := is X sc W xs g F h.2
    exact ⟨pe_tup' h1 (hl_of (X := X) (sc := sc) (W := W) h3 h.1), rfl⟩
  · cases h
theorem ok_lst {es : Es} (is : OkEs c cl k es) : OkE c cl k (.lst es) := OkE.plain fun X sc W ast g F h => by
  simp only [chkE] at h
  split at h
  · rename_i xs hx
    obtain ⟨p, rfl⟩ := vLst_ok hx
    simp only [Bool.and_eq_true, decide_eq_true_eq] at h
    obtain ⟨h1, h2, h3⟩ := is X sc W xs g F h.2
    exact ⟨PE.imp (pe_lst' h1 (hl_of (X := X) (sc := sc) (W := W) h3 h.1)) fun σ H Q h => tF_of h, rfl⟩
  · cases h
theorem ok_dct0 : OkE c cl k .dct0 := OkE.plain fun X sc W ast g F h => by
  simp only [chkE] at h
  split at h
  · rename_i hx
    obtain ⟨p, rfl⟩ := vDict_ok hx
    exact ⟨PE.imp pe_dct0' fun σ H Q h => tF_of h, rfl⟩
  · cases h
theorem ok_dct1 {a b : E} (ia : OkE c cl k a) (ib : OkE c cl k b) : OkE c cl k (.dct1 a b) := OkE.plain fun X sc W ast g F h => by
  simp only [chkE] at h
  split at h
  · rename_i x y hx
    obtain ⟨p, rfl⟩ := vDict_ok hx
    simp only [Bool.and_eq_true] at h
    exact ⟨PE.imp (pe_dct1' (ia X sc W x g F h.1).1 (ib X sc W y g F h.2).1) fun σ H Q h => tF_of h, rfl⟩
  · cases h
theorem ok_call {f : Nat} {es : Es} (is : OkEs c cl k es) : OkE c cl k (.call f es) := OkE.plain fun X sc W ast g F h => by
  simp only [chkE] at h
  split at h
  · rename_i x xs hx
    obtain ⟨p, q, rfl⟩ := vCall_ok hx
    simp only [Bool.and_eq_true] at h
    obtain ⟨hr, h1, h2, h3⟩ := h
    split at h1
    · rename_i y n hd
      simp only [Bool.and_eq_true, decide_eq_true_eq] at h1
      obtain ⟨rfl, rfl, h4⟩ := h1
      obtain ⟨h5, h6, h7⟩ := is X sc W xs g F h3
      exact ⟨pe_call' g F (Cfg.rp_of hr) hd h2.1 h2.2 h5 rfl h6 h4 fun Γ b P E z => Tr.wp_mono (fun _ _ y => ⟨by rw [y.1, h7], y.2⟩) (fun _ _ y => y) _ _ (evs_len z), rfl⟩
    · cases h1
  · cases h
theorem ok_bi {f : Bi} {es : Es} (is : OkEs c cl k es) : OkE c cl k (.bi f es) := OkE.plain fun X sc W ast g F h => by
  simp only [chkE] at h
  split at h
  · rename_i x xs hx
    obtain ⟨p, q, rfl⟩ := vCall_ok hx
    simp only [Bool.and_eq_true, decide_eq_true_eq] at h
    obtain ⟨hr, ⟨rfl, h1, h2⟩, h3⟩ := h
    obtain ⟨hg, hm⟩ := freeB_ok g F h2
    obtain ⟨h5, h6, h7⟩ := is X sc W xs g F h3
    cases xs with
    | nil => exact absurd rfl h1
    | cons x xs =>
      refine ⟨?_, rfl⟩
      cases f with
      | len => exact pe_bi' callR_len hg hm boot_len (by decide) h5 h6
      | all => exact pe_bi' (callR_all g.calm) hg hm boot_all (by decide) h5 h6
      | tuple => exact pe_biT' callR_tuple hg hm PyProof.Rows.boot_tuple (by decide) h5 h6
      | list => exact PE.imp (pe_list' hg hm PyProof.Rows.boot_list (by decide) h5 h6) fun σ H Q h => tF_of h
      | int => exact pe_biT' callR_int hg hm PyProof.Rows.boot_int (by decide) h5 h6
      | abs => exact pe_bi' callR_abs hg hm boot_abs (by decide) h5 h6
      | mx => exact pe_bi' (callR_mx g.calm) hg hm (by decide +kernel) (by decide) h5 h6
      | mn => exact pe_bi' (callR_mn g.calm) hg hm (by decide +kernel) (by decide) h5 h6
      | repr => exact pe_bi' (callR_repr (g.gu (by simpa [biR] using hr)) (by have := g.room.units; omega)) hg hm (by decide +kernel) (by decide) h5 h6
  · cases h
theorem ok_isi {T : Ty} {a : E} (ia : OkE c cl k a) : OkE c cl k (.isi T a) := OkE.plain fun X sc W ast g F h => by
  simp only [chkE] at h
  split at h
  · rename_i x y z hx
    obtain ⟨p, q, rfl⟩ := vCall_ok hx
    simp only [Bool.and_eq_true, decide_eq_true_eq] at h
    obtain ⟨⟨h1, h2, h3, h4⟩, h5, h6⟩ := h
    obtain ⟨p2, rfl⟩ := vName_ok h2
    obtain ⟨hg, hm⟩ := freeB_ok g F h3
    obtain ⟨hg2, hm2⟩ := freeB_ok g F h4
    subst h1
    exact ⟨pe_isi' rfl hg hm hg2 hm2 (ia X sc W y g F h5).1 h6, rfl⟩
  · cases h
theorem ok_ix {a b : E} (ia : OkE c cl k a) (ib : OkE c cl k b) : OkE c cl k (.ix a b) := OkE.plain fun X sc W ast g F h => by
  simp only [chkE] at h
  split at h
  · rename_i x y hx
    obtain ⟨p, rfl⟩ := vSub_ok hx
    simp only [Bool.and_eq_true] at h
    exact ⟨pe_ix' g (ia X sc W x g F h.2.1).1 (ib X sc W y g F h.2.2).1 h.1, rfl⟩
  · cases h
theorem ok_sl0 {a : E} (ia : OkE c cl k a) : OkE c cl k (.sl0 a) := OkE.plain fun X sc W ast g F h => by
  simp only [chkE] at h
  split at h
  · rename_i x s hx
    obtain ⟨p, rfl⟩ := vSub_ok hx
    simp only [Bool.and_eq_true] at h
    obtain ⟨h1, h2⟩ := h
    split at h1
    · rename_i hs
      obtain ⟨p2, rfl⟩ := vSl_ok hs
      exact ⟨pe_sl0' (ia X sc W x g F h2).1, rfl⟩
    · cases h1
  · cases h
theorem ok_slT {a b : E} (ia : OkE c cl k a) (ib : OkE c cl k b) : OkE c cl k (.slT a b) := OkE.plain fun X sc W ast g F h => by
  simp only [chkE] at h
  split at h
  · rename_i x s hx
    obtain ⟨p, rfl⟩ := vSub_ok hx
    simp only [Bool.and_eq_true] at h
    obtain ⟨h1, h2⟩ := h
    split at h1
    · rename_i y hs
      obtain ⟨p2, rfl⟩ := vSl_ok hs
      exact ⟨pe_slT' (ia X sc W x g F h2).1 (ib X sc W y g F h1).1, rfl⟩
    · cases h1
  · cases h
theorem ok_slF {a b : E} (ia : OkE c cl k a) (ib : OkE c cl k b) : OkE c cl k (.slF a b) := OkE.plain fun X sc W ast g F h => by
  simp only [chkE] at h
  split at h
  · rename_i x s hx
    obtain ⟨p, rfl⟩ := vSub_ok hx
    simp only [Bool.and_eq_true] at h
    obtain ⟨h1, h2⟩ := h
    split at h1
    · rename_i y hs
      obtain ⟨p2, rfl⟩ := vSl_ok hs
      exact ⟨pe_slF' (ia X sc W x g F h2).1 (ib X sc W y g F h1).1, rfl⟩
    · cases h1
  · cases h
theorem ok_slB {a b d : E} (ia : OkE c cl k a) (ib : OkE c cl k b) (id : OkE c cl k d) : OkE c cl k (.slB a b d) := OkE.plain fun X sc W ast g F h => by
  simp only [chkE] at h
  split at h
  · rename_i x s hx
    obtain ⟨p, rfl⟩ := vSub_ok hx
    simp only [Bool.and_eq_true] at h
    obtain ⟨h1, h2⟩ := h
    split at h1
    · rename_i y z hs
      obtain ⟨p2, rfl⟩ := vSl_ok hs
      simp only [Bool.and_eq_true] at h1
      exact ⟨pe_slB' (ia X sc W x g F h2).1 (ib X sc W y g F h1.1).1 (id X sc W z g F h1.2).1, rfl⟩
    · cases h1
  · cases h
theorem ok_rev {a : E} (ia : OkE c cl k a) : OkE c cl k (.rev a) := OkE.plain fun X sc W ast g F h => by
  simp only [chkE] at h
  split at h
  · rename_i x s hx
    obtain ⟨p, rfl⟩ := vSub_ok hx
    simp only [Bool.and_eq_true] at h
    obtain ⟨h1, h2⟩ := h
    split at h1
    · rename_i st hs
      obtain ⟨p2, rfl⟩ := vSl_ok hs
      obtain ⟨j, p3, p4, rfl⟩ := isM1_ok h1
      exact ⟨pe_rev' (ia X sc W x g F h2).1, rfl⟩
    · cases h1
  · cases h
theorem ok_join {a b : E} (ia : OkE c cl k a) (ib : OkE c cl k b) : OkE c cl k (.join a b) := OkE.plain fun X sc W ast g F h => by
  simp only [chkE] at h
  split at h
  · rename_i o m x hx
    obtain ⟨ap, cp, rfl, hl⟩ := vMeth_ok hx
    simp only [Bool.and_eq_true, decide_eq_true_eq] at h
    obtain ⟨⟨rfl, h1, h2⟩, h3, h4⟩ := h
    exact ⟨pe_join' (ia X sc W o g F h3).1 (ib X sc W x g F h4).1 h2 h1 hl, rfl⟩
  · cases h
theorem ok_low {up : Bool} {a : E} (ia : OkE c cl k a) : OkE c cl k (.low up a) := OkE.plain fun X sc W ast g F h => by
  simp only [chkE] at h
  split at h
  · rename_i o m hx
    obtain ⟨ap, cp, rfl, hl⟩ := vMeth_ok hx
    simp only [Bool.and_eq_true, decide_eq_true_eq] at h
    obtain ⟨⟨rfl, h1⟩, h3⟩ := h
    exact ⟨pe_low' (ia X sc W o g F h3).1 h1 hl up _ (by cases up <;> rfl), rfl⟩
  · cases h
theorem ok_sortk {a : E} (ia : OkE c cl k a) : OkE c cl k (.sortk a) := OkE.plain fun X sc W ast g F h => by
  simp only [chkE] at h
  split at h
  · rename_i x hx
    obtain ⟨p, q, p2, p3, rfl⟩ := vSortK_ok hx
    simp only [Bool.and_eq_true] at h
    obtain ⟨⟨h1, h2, h3, h4⟩, h5⟩ := h
    obtain ⟨hg, hm⟩ := freeB_ok g F h2
    exact ⟨PE.imp (pe_sortk' g F h1 hg hm (Gl_of g h3) (ia X sc W x g F h5).1 h4) fun σ H Q h => tF_of h, rfl⟩
  · cases h
theorem ok_sset {a : E} (ia : OkE c cl k a) : OkE c cl k (.sset a) := OkE.plain fun X sc W ast g F h => by
  simp only [chkE] at h
  split at h
  · rename_i x hx
    obtain ⟨p, q, p2, p3, rfl⟩ := vSset_ok hx
    simp only [Bool.and_eq_true] at h
    obtain ⟨⟨h1, h2, h3⟩, h5⟩ := h
    obtain ⟨hg, hm⟩ := freeB_ok g F h1
    obtain ⟨hg2, hm2⟩ := freeB_ok g F h2
    exact ⟨PE.imp (pe_sset' g hg hm hg2 hm2 (ia X sc W x g F h5).1 h3) fun σ H Q h => tF_of h, rfl⟩
  · cases h
theorem ok_index {a b : E} (ia : OkE c cl k a) (ib : OkE c cl k b) : OkE c cl k (.index a b) := OkE.plain fun X sc W ast g F h => by
  simp only [chkE] at h
  split at h
  · rename_i o m x hx
    obtain ⟨ap, cp, rfl, hl⟩ := vMeth_ok hx
    simp only [Bool.and_eq_true, decide_eq_true_eq] at h
    obtain ⟨⟨rfl, h1, h2⟩, h3, h4⟩ := h
    exact ⟨pe_index' g (ia X sc W o g F h3).1 (ib X sc W x g F h4).1 h2 h1 hl, rfl⟩
  · cases h
theorem ok_get {a b d : E} (ia : OkE c cl k a) (ib : OkE c cl k b) (id : OkE c cl k d) : OkE c cl k (.dget a b d) := OkE.plain fun X sc W ast g F h => by
  simp only [chkE] at h
  split at h
  · rename_i o m x y hx
    obtain ⟨ap, cp, rfl, hl⟩ := vMeth_ok hx
    simp only [Bool.and_eq_true, decide_eq_true_eq] at h
    obtain ⟨⟨rfl, h1, h2, h3⟩, h4, h5, h6⟩ := h
    exact ⟨pe_get' g (ia X sc W o g F h4).1 (ib X sc W x g F h5).1 (id X sc W y g F h6).1 h2 h3 h1 hl, rfl⟩
  · cases h
theorem ok_mkx {i : Nat} {a : E} (ia : OkE c cl k a) : OkE c cl k (.mkx i a) := OkE.plain fun X sc W ast g F h => by
  simp only [chkE] at h
  split at h
  · rename_i x y hx
    obtain ⟨p, q, rfl⟩ := vCall_ok hx
    simp only [Bool.and_eq_true, decide_eq_true_eq] at h
    obtain ⟨⟨⟨h1, h2, h3⟩, h4⟩, h5⟩ := h
    exact ⟨pe_mkx' F h1 (Gl_of g h2) h3 (ia X sc W y g F h5).1 h4, rfl⟩
  · cases h
theorem xq_at {X : Cx} {sc : Scope} {W : WX} {q : XQ} {y : Expr} (g : Gd X c sc cl k W) (F : Fc X.prog X.w X.K X.mg X.base c cl k) (h : xqB c sc q y = true) : XqAt X sc c q y ∧ notStar y = true := by
  unfold xqB at h
  split at h
  · rename_i n hn
    obtain ⟨p, rfl⟩ := vName_ok hn
    refine ⟨?_, rfl⟩
    split at h
    · rename_i i
      simp only [Bool.and_eq_true, decide_eq_true_eq] at h
      obtain ⟨bmB, B, newId, initId, e1, e2, e3, e4, e5, e6⟩ := F.excs i n h.1
      refine ⟨.ref (He.ga X.K n), pe_glob (v := .ref (He.ga X.K n)) (Gl_of g h.2.1) e3 rfl (okN_ok h.2.2).1, fun u r => ?_⟩
      have r' : u = .ref (He.ga X.K n) := r
      rw [r']
      show _ = Value.ref (He.ga X.K (c.excs.getD i Str.empty))
      rw [List.getD_eq_getElem?_getD, h.1]
      rfl
    · rename_i hq
      simp only [Bool.and_eq_true, decide_eq_true_eq] at h
      obtain ⟨h0, rfl, h2⟩ := h
      obtain ⟨hg, hm⟩ := freeB_ok g F h2
      obtain ⟨b1, b2, b3⟩ := XQ.boot h0
      refine ⟨.ty q.ty, pe_bltn (v := .ty q.ty) hg hm b1 rfl b2 b3, fun u r => ?_⟩
      have r' : u = .type q.ty := r
      rw [r']
      cases q with
      | own i => exact absurd rfl h0
      | _ => rfl
  · cases h
theorem ok_isX {q : XQ} {ys : List Nat} {a : E} (ia : OkE c cl k a) : OkE c cl k (.isX q ys a) := OkE.plain fun X sc W ast g F h => by
  simp only [chkE] at h
  split at h
  · rename_i f o y hx
    obtain ⟨p, q', rfl⟩ := vCall_ok hx
    simp only [Bool.and_eq_true, decide_eq_true_eq] at h
    obtain ⟨⟨⟨rfl, h1⟩, ⟨h2, h3⟩, h4⟩, h5⟩ := h
    obtain ⟨hg, hm⟩ := freeB_ok g F h1
    obtain ⟨hy, hny⟩ := xq_at g F h4
    exact ⟨pe_isX' F h2 hg hm hy (ia X sc W o g F h5).1 h3 hny, rfl⟩
  · cases h
theorem ok_inTab {neg : Bool} {t : Nat} {a : E} (ia : OkE c cl k a) : OkE c cl k (.inTab neg t a) := fun X sc W ast g F h => by
  simp only [chkE] at h
  split at h
  · rename_i x op y hx
    obtain ⟨p, rfl⟩ := vCmp_ok hx
    simp only [Bool.and_eq_true] at h
    obtain ⟨⟨h1, h2⟩, h3⟩ := h
    split at h2
    · rename_i n m tb hn ht
      simp only [Bool.and_eq_true, decide_eq_true_eq] at h2
      obtain ⟨rfl, h4, h5⟩ := h2
      obtain ⟨p2, rfl⟩ := vName_ok hn
      have a1 := (ia X sc W x g F h3).1
      exact ⟨pe_inTab' F ht (Gl_of g h4) h5 a1 op (inOp_ok h1), fun _ => pt_inTab' F ht (Gl_of g h4) h5 a1 op (inOp_ok h1), fun o es p e => nomatch e⟩
    · cases h2
  · cases h
theorem ok_getTab {t : Nat} {a : E} (ia : OkE c cl k a) : OkE c cl k (.getTab t a) := OkE.plain fun X sc W ast g F h => by
  simp only [chkE] at h
  split at h
  · rename_i x y hx
    obtain ⟨p, rfl⟩ := vSub_ok hx
    simp only [Bool.and_eq_true] at h
    obtain ⟨⟨h1, h2⟩, h3⟩ := h
    split at h2
    · rename_i n m tb hn ht
      simp only [Bool.and_eq_true, decide_eq_true_eq] at h2
      obtain ⟨rfl, h4, h5⟩ := h2
      obtain ⟨p2, rfl⟩ := vName_ok hn
      exact ⟨pe_getTab' F ht (Gl_of g h4) h5 (ia X sc W y g F h3).1 h1, rfl⟩
    · cases h2
  · cases h
theorem ok_lc {s : Src} {g' : Tg} {e : E} (is : OkS c cl k s) (ie : OkE c cl k e) : OkE c cl k (.lc s g' e) := OkE.plain fun X sc W ast g F h => by
  simp only [chkE] at h
  split at h
  · rename_i elt tg it scope hx
    obtain ⟨p, rfl⟩ := vLc_ok hx
    simp only [Bool.and_eq_true] at h
    obtain ⟨⟨⟨h1, h2⟩, h3⟩, h4, h5⟩ := h
    exact ⟨PE.imp (pe_lc' g (is X sc W tg it g F h4) h1 h2 h3 fun s H C cv fp => (ie _ _ _ elt (g.blk s H C cv fp) F h5).1) fun σ H Q h => tF_of h, rfl⟩
  · cases h
theorem ok_lcIf {s : Src} {g' : Tg} {t e : E} (is : OkS c cl k s) (it : OkE c cl k t) (ie : OkE c cl k e) : OkE c cl k (.lcIf s g' t e) := OkE.plain fun X sc W ast g F h => by
  simp only [chkE] at h
  split at h
  · rename_i elt tg itr ct scope hx
    obtain ⟨p, rfl⟩ := vLc_ok hx
    simp only [Bool.and_eq_true] at h
    obtain ⟨⟨⟨h1, h2⟩, h3, h6⟩, h4, h5, h7⟩ := h
    exact ⟨PE.imp (pe_lcIf' g (is X sc W tg itr g F h4) h1 h2 h3 (fun s H C cv fp => (it _ _ _ ct (g.blk s H C cv fp) F h5).2.1 h6) fun s H C cv fp => (ie _ _ _ elt (g.blk s H C cv fp) F h7).1) fun σ H Q h => tF_of h, rfl⟩
  · cases h
theorem ok_dc {s : Src} {g' : Tg} {a b : E} (is : OkS c cl k s) (ia : OkE c cl k a) (ib : OkE c cl k b) : OkE c cl k (.dc s g' a b) := OkE.plain fun X sc W ast g F h => by
  simp only [chkE] at h
  split at h
  · rename_i kx vx tg it scope hx
    obtain ⟨p, rfl⟩ := vDc_ok hx
    simp only [Bool.and_eq_true] at h
    obtain ⟨⟨⟨h1, h2⟩, h3⟩, h4, h5, h6⟩ := h
    exact ⟨PE.imp (pe_dc' g (is X sc W tg it g F h4) h1 h2 h3 (fun s H C cv fp => (ia _ _ _ kx (g.blk s H C cv fp) F h5).1) fun s H C cv fp => (ib _ _ _ vx (g.blk s H C cv fp) F h6).1) fun σ H Q h => tF_of h, rfl⟩
  · cases h
theorem pe_catB {X : Cx} {c : Cfg} {sc : Scope} {cl : Cl} {W : WX} {a e : Expr} {fa fb : Ga → Tr D} {op : Operator} {pos : Pos} (ho : opB .add op = true) (ha : PE X a (tE X.K c W fa)) (hb : PE X e (tE X.K c W fb)) : PE X (.BinOp a op e pos) (tF X.K c W fun Γ => (fa Γ).bind fun x => (fb Γ).bind fun y => opCat x y) := by
  cases op <;> first | exact pe_cat' ha hb | cases ho
theorem ok_cat {a b : E} (ia : OkE c cl k a) (ib : OkE c cl k b) : OkE c cl k (.cat a b) := OkE.plain fun X sc W ast g F h => by
  simp only [chkE] at h
  split at h
  · rename_i x op y hx
    obtain ⟨p, rfl⟩ := vBin_ok hx
    simp only [Bool.and_eq_true] at h
    exact ⟨PE.imp (pe_catB (sc := sc) (cl := cl) h.1 (ia X sc W x g F h.2.1).1 (ib X sc W y g F h.2.2).1) fun σ H Q h => tF_of h, rfl⟩
  · cases h
theorem ok_dcIf {s : Src} {g' : Tg} {t a b : E} (is : OkS c cl k s) (it : OkE c cl k t) (ia : OkE c cl k a) (ib : OkE c cl k b) : OkE c cl k (.dcIf s g' t a b) := OkE.plain fun X sc W ast g F h => by
  simp only [chkE] at h
  split at h
  · rename_i kx vx tg itr ct scope hx
    obtain ⟨p, rfl⟩ := vDc_ok hx
    simp only [Bool.and_eq_true] at h
    obtain ⟨⟨⟨h1, h2⟩, h3, h3'⟩, h4, h45, h5, h6⟩ := h
    exact ⟨PE.imp (pe_dcIf' g (is X sc W tg itr g F h4) h1 h2 h3 (fun s H C cv fp => (it _ _ _ ct (g.blk s H C cv fp) F h45).2.1 h3') (fun s H C cv fp => (ia _ _ _ kx (g.blk s H C cv fp) F h5).1) fun s H C cv fp => (ib _ _ _ vx (g.blk s H C cv fp) F h6).1) fun σ H Q h => tF_of h, rfl⟩
  · cases h
/-- the values of keywords -/
def OkKs (c : Cfg) (cl : Cl) (k : Nat) (ies : Es) : Prop := ∀ (X : Cx) (sc : Scope) (W : WX) (kws : List Keyword), Gd X c sc cl k W → Fc X.prog X.w X.K X.mg X.base c cl k → chkEs c sc ies (kws.map (·.value)) = true →
  PK X kws (tEs X.K c W (evs cl c.tb ies)) ∧ kws.length = ies.toL.length
theorem ok_callK {f : Nat} {ks : List Str} {pm : List Nat} {es : Es} (is : OkKs c cl k es) : OkE c cl k (.callK f ks pm es) := OkE.plain fun X sc W ast g F h => by
  simp only [chkE] at h
  split at h
  · rename_i x kws hx
    obtain ⟨p, q, rfl⟩ := vKall_ok hx
    simp only [Bool.and_eq_true] at h
    obtain ⟨hr, h1, h2, h3⟩ := h
    split at h1
    · rename_i y n hd
      simp only [Bool.and_eq_true, decide_eq_true_eq] at h1
      obtain ⟨rfl, h4, h5, h6⟩ := h1
      obtain ⟨h7, h8⟩ := is X sc W kws g F h3
      have hlen : ks.length = kws.length := by
        rw [← h6]
        clear h6 h7 h8 h3 hx
        induction kws with
        | nil => rfl
        | cons q r ih =>
          rw [List.all_cons, Bool.and_eq_true] at h5
          rw [List.filterMap_cons]
          cases e : q.arg with
          | none => rw [e] at h5; cases h5.1
          | some z => exact congrArg Nat.succ (ih h5.2)
      exact ⟨pe_callKw' g F (Cfg.rp_of hr) hd h2.1 h2.2 h4 h7 h5 h6 fun Γ b P E z => Tr.wp_mono (fun _ _ y => ⟨by rw [y.1, hlen, h8], y.2⟩) (fun _ _ y => y) _ _ (evs_len z), rfl⟩
    · cases h1
  · cases h
theorem vTup_some {e : Expr} (h : (vTup e).isSome = true) : ∃ es j p, e = .Tuple es j p := by
  cases hv : vTup e with
  | none =>
    rw [hv] at h
    cases h
  | some es =>
    obtain ⟨j, p, rfl⟩ := vTup_ok hv
    exact ⟨_, _, _, rfl⟩
theorem Fc.lamB {P : Program} {w : World} {K : PySem.W.Frag} {mg : Str → Option Value} {base : Heap} {c : Cfg} {cl : Cl} {k : Nat} (F : Fc P w K mg base c cl k) : Fc P w K mg base c.lamB cl k := ⟨F.defs, F.cons, F.tabs, F.free, F.excs, F.key, F.lam, F.isx, F.exm⟩
theorem lookW_mem : ∀ {ws : List (Nat × S)} {i : Nat} {z : S}, lookW ws i = some z → ∃ j, (j, z) ∈ ws
  | (j, w) :: r, i, z, h => by
    unfold lookW at h
    split at h
    · cases h
      exact ⟨j, List.mem_cons_self ..⟩
    · obtain ⟨j', hj⟩ := lookW_mem h
      exact ⟨j', List.mem_cons_of_mem _ hj⟩
theorem rep_lam {τ : Tbs} {pa : Pa τ} {B : Addr → Prop} {H : Hp} {m : Bool} {v : V} {d : D} (r : Rep pa B H v d) : Rep pa B H (lamVV m v) (lamV m d) := by
  cases m with
  | true => exact r
  | false => exact .str fineS (by decide) (by decide)
theorem ok_lamc {m : Bool} {ws : List (Nat × S)} {e : E} {c : Cfg} {cl : Cl} {k : Nat} (ie : OkE c.lamB cl k e) : OkE c cl k (.lamc m ws e) := OkE.plain fun X sc W ast g F h => by
  simp only [chkE] at h
  split at h
  · rename_i x body lsc hx
    obtain ⟨p, l, q, rfl⟩ := vLam_ok hx
    simp only [Bool.and_eq_true, decide_eq_true_eq] at h
    obtain ⟨⟨h1, h2⟩, ⟨h3, h4⟩, ⟨h5, h6⟩, h7⟩ := h
    obtain ⟨⟨cc, P, l1, l2, l3, l4⟩, l5⟩ := g.lam h1
    obtain ⟨gg, a, pg, bg, sg, dV, kV, doc, pm, cdv, ct, oc, an, od, osl, Ng, f1, f2, f3, f4, f5, f6, f7, f8, ⟨f9, f10⟩, f11⟩ := F.lam x m ws h2
    have L : LamX.LamS X.env.scope lsc := by
      rw [g.sc]
      exact LamX.lamS_by h5
    refine ⟨PE.imp (LamX.pe_lamcall (T := (c.T X.K).t) (TT := TTw X.K c m ws) (t := fun E => tE X.K c (fun cls d _ H => E cls d H) (ev cl c.tb e)) (Gl_of g h3) f1 f2 f3 f4 f5 f6 f7 f8 (f11 X rfl rfl rfl rfl rfl _) l2 l1 l3 l4 l5 L rfl (fun _ _ _ _ _ => rfl) (fun A outer s H E f c' hr => ?_) (okN_ok h4).1 f9 f10) fun σ H Q h => ?_, rfl⟩
    · have gd : Gd (LamX.lamCx X A outer s H E lsc f c') c.lamB lsc cl k (fun cls d _ H => E cls d H) := ⟨g.n, g.nd, rfl, rfl, hr, (fun z => nomatch z), takes_of rfl rfl rfl rfl, (fun z => nomatch z)⟩
      exact (ie _ lsc _ body gd F.lamB h7).1
    · obtain ⟨Γ, pa, B, b, o, hw⟩ := h
      have hw : (lamT m ws (ev cl c.tb e Γ)).wp b (Po pa B H Q) (Er X.K c W pa σ H) := hw
      have hw1 := (Tr.wp_bind _ _).mp ((Tr.wp_catchE _ _).mp hw)
      obtain ⟨n, ns, at_, rest, k1, k2, k3, k4, k5, k6⟩ := o.rm.hk
      refine ⟨k6, fun H1 eN T1 => ?_⟩
      have x1 : Ex pa H H1 := ⟨fun a o h _ t => eN a o h t, fun a o h t => ⟨o, eN a o h t, t⟩⟩
      have kk1 : Hk pa b H1 := ⟨n, ns, at_, rest, eN _ _ k1 (by intro ps w; cases w), eN _ _ k2 (by intro ps w; cases w), k3, k4, k5, T1⟩
      refine ⟨Γ, pa, B, b, o.ex x1 kk1, Tr.wp_mono (fun b1 d h1 v H' x kk r => ?_) (fun b1 i h1 H' x kk => ?_) _ _ hw1⟩
      · exact (show Po pa B H Q b1 (lamV m d) from h1) _ H' (x1.trans x) kk (rep_lam r)
      · have h1 : Tr.wp (match lookW ws i with | some w => (Tr.ok (.str w) : Tr D) | none => .stuck) b1 (Po pa B H Q) (Er X.K c W pa σ H) := h1
        cases e1 : lookW ws i with
        | none =>
          rw [e1] at h1
          exact h1.elim
        | some z =>
          rw [e1] at h1
          obtain ⟨j, hj⟩ := lookW_mem e1
          have hz := List.all_eq_true.mp h6 _ hj
          unfold strB at hz
          simp only [Bool.and_eq_true, decide_eq_true_eq] at hz
          refine ⟨rfl, i, z, e1, rfl, fun H2 up => ?_⟩
          have x2 : Ex pa H' H2 := ⟨fun a o h _ _ => up a o h, fun a o h t => ⟨o, up a o h, t⟩⟩
          obtain ⟨n', ns', at', rest', k1', k2', k3', k4', k5', k6'⟩ := kk
          have kk2 : Hk pa b1 H2 := ⟨n', ns', at', rest', up _ _ k1', up _ _ k2', k3', k4', k5', fun p hp => (k6' p hp).ext up⟩
          exact (show Po pa B H Q b1 (.str z) from h1) _ H2 ((x1.trans x).trans x2) kk2 (.str z hz.1 hz.2)
  · cases h
mutual
theorem okE (c : Cfg) (cl : Cl) (k : Nat) : ∀ e : E, OkE c cl k e
  | .var i => ok_var i
  | .cst d => ok_cst d
  | .bin o a b => ok_bin (okE c cl k a) (okE c cl k b)
  | .neg a => ok_neg (okE c cl k a)
  | .not a => ok_not (okE c cl k a)
  | .and a b => ok_and (okE c cl k a) (okE c cl k b)
  | .or a b => ok_or (okE c cl k a) (okE c cl k b)
  | .cmp o a b => ok_cmp (okE c cl k a) (okE c cl k b)
  | .chain o o' a b d => ok_chain (okE c cl k a) (okE c cl k b) (okE c cl k d)
  | .isN neg a => ok_isN (okE c cl k a)
  | .isB neg v a => ok_isB (okE c cl k a)
  | .ife t a b => ok_ife (okE c cl k t) (okE c cl k a) (okE c cl k b)
  | .tup es => ok_tup (okEs c cl k es)
  | .lst es => ok_lst (okEs c cl k es)
  | .dct0 => ok_dct0
  | .dct1 a b => ok_dct1 (okE c cl k a) (okE c cl k b)
  | .call f es => ok_call (okEs c cl k es)
  | .callK f ks pm es => ok_callK (okKs c cl k es)
  | .bi f es => ok_bi (okEs c cl k es)
  | .isi T a => ok_isi (okE c cl k a)
  | .ix a b => ok_ix (okE c cl k a) (okE c cl k b)
  | .sl0 a => ok_sl0 (okE c cl k a)
  | .slT a b => ok_slT (okE c cl k a) (okE c cl k b)
  | .slF a b => ok_slF (okE c cl k a) (okE c cl k b)
  | .slB a b d => ok_slB (okE c cl k a) (okE c cl k b) (okE c cl k d)
  | .rev a => ok_rev (okE c cl k a)
  | .join a b => ok_join (okE c cl k a) (okE c cl k b)
  | .low up a => ok_low (okE c cl k a)
  | .sortk a => ok_sortk (okE c cl k a)
  | .bad => ok_bad
  | .inTab neg t a => ok_inTab (okE c cl k a)
  | .getTab t a => ok_getTab (okE c cl k a)
  | .lc s g e => ok_lc (okS c cl k s) (okE c cl k e)
  | .lcIf s g t e => ok_lcIf (okS c cl k s) (okE c cl k t) (okE c cl k e)
  | .dc s g a b => ok_dc (okS c cl k s) (okE c cl k a) (okE c cl k b)
  | .cat a b => ok_cat (okE c cl k a) (okE c cl k b)
  | .sset a => ok_sset (okE c cl k a)
  | .index a b => ok_index (okE c cl k a) (okE c cl k b)
  | .dget a b d => ok_get (okE c cl k a) (okE c cl k b) (okE c cl k d)
  | .mkx i a => ok_mkx (okE c cl k a)
  | .isX q ys a => ok_isX (okE c cl k a)
  | .lamc m ws e => ok_lamc (okE c.lamB cl k e)
  | .dcIf s g t a b => ok_dcIf (okS c cl k s) (okE c cl k t) (okE c cl k a) (okE c cl k b)
theorem okEs (c : Cfg) (cl : Cl) (k : Nat) : ∀ es : Es, OkEs c cl k es
  | .nil => fun X sc W asts g F h => by
    cases asts with
    | nil => exact ⟨pa_nil', rfl, rfl⟩
    | cons _ _ => cases h
  | .cons e es => fun X sc W asts g F h => by
    cases asts with
    | nil => cases h
    | cons x xs =>
      simp only [chkEs, Bool.and_eq_true] at h
      obtain ⟨h1, h2, h3⟩ := okEs c cl k es X sc W xs g F h.2
      exact ⟨pa_cons' (okE c cl k e X sc W x g F h.1.1).1 h1 h.1.2, by rw [List.all_cons, h.1.2, h2]; rfl, congrArg Nat.succ h3⟩
theorem okKs (c : Cfg) (cl : Cl) (k : Nat) : ∀ es : Es, OkKs c cl k es
  | .nil => fun X sc W kws g F h => by
    cases kws with
    | nil => exact ⟨pk_nil', rfl⟩
    | cons _ _ => cases h
  | .cons e es => fun X sc W kws g F h => by
    cases kws with
    | nil => cases h
    | cons q qs =>
      rw [List.map_cons] at h
      simp only [chkEs, Bool.and_eq_true] at h
      obtain ⟨h1, h2⟩ := okKs c cl k es X sc W qs g F h.2
      obtain ⟨nm, qv, qp⟩ := q
      exact ⟨pk_cons' (nm := nm) (kpos := qp) (okE c cl k e X sc W qv g F h.1.1).1 h1, congrArg Nat.succ h2⟩
theorem okS (c : Cfg) (cl : Cl) (k : Nat) : ∀ s : Src, OkS c cl k s
  | .it e => fun X sc W tg x g F h => pi_it' (okE c cl k e X sc W x g F h).1
  | .rng1 e => fun X sc W tg x g F h => by
    simp only [chkS] at h
    split at h
    · rename_i n y hx
      obtain ⟨p, q, rfl⟩ := vCall_ok hx
      simp only [Bool.and_eq_true, decide_eq_true_eq] at h
      obtain ⟨⟨rfl, h1, h2⟩, h3⟩ := h
      obtain ⟨hg, hm⟩ := freeB_ok g F h1
      exact pi_rng1' hg hm (okE c cl k e X sc W y g F h3).1 h2
    · cases h
  | .rng2 a b => fun X sc W tg x g F h => by
    simp only [chkS] at h
    split at h
    · rename_i n y z hx
      obtain ⟨p, q, rfl⟩ := vCall_ok hx
      simp only [Bool.and_eq_true, decide_eq_true_eq] at h
      obtain ⟨⟨rfl, h1, h2, h4⟩, h3, h5⟩ := h
      obtain ⟨hg, hm⟩ := freeB_ok g F h1
      exact pi_rng2' hg hm (okE c cl k a X sc W y g F h3).1 (okE c cl k b X sc W z g F h5).1 h2 h4
    · cases h
  | .enum e => fun X sc W tg x g F h => by
    simp only [chkS] at h
    split at h
    · rename_i n y hx
      obtain ⟨p, q, rfl⟩ := vCall_ok hx
      simp only [Bool.and_eq_true, decide_eq_true_eq] at h
      obtain ⟨⟨h0, rfl, h1, h2⟩, h3⟩ := h
      obtain ⟨es, j, tp, rfl⟩ := vTup_some h0
      obtain ⟨hg, hm⟩ := freeB_ok g F h1
      exact pi_enum' hg hm (okE c cl k e X sc W y g F h3).1 h2
    · cases h
  | .zip a b => fun X sc W tg x g F h => by
    simp only [chkS] at h
    split at h
    · rename_i n y z hx
      obtain ⟨p, q, rfl⟩ := vCall_ok hx
      simp only [Bool.and_eq_true, decide_eq_true_eq] at h
      obtain ⟨⟨h0, rfl, h1, h2, h4⟩, h3, h5⟩ := h
      obtain ⟨es, j, tp, rfl⟩ := vTup_some h0
      obtain ⟨hg, hm⟩ := freeB_ok g F h1
      exact pi_zip' hg hm (okE c cl k a X sc W y g F h3).1 (okE c cl k b X sc W z g F h5).1 h2 h4
    · cases h
  | .zipT a b => fun X sc W tg x g F h => by
    simp only [chkS] at h
    split at h
    · rename_i n y z hx
      obtain ⟨p, q, rfl⟩ := vCall_ok hx
      simp only [Bool.and_eq_true, decide_eq_true_eq] at h
      obtain ⟨⟨h0, rfl, h1, h2, h4⟩, h3, h5⟩ := h
      obtain ⟨es, j, tp, rfl⟩ := vTup_some h0
      obtain ⟨hg, hm⟩ := freeB_ok g F h1
      exact pi_zipT' hg hm (okE c cl k a X sc W y g F h3).1 (okE c cl k b X sc W z g F h5).1 h2 h4
    · cases h
  | .zipS a b => fun X sc W tg x g F h => by
    simp only [chkS] at h
    split at h
    · rename_i y z hx
      obtain ⟨p, q, j, p2, p3, rfl⟩ := vZipS_ok hx
      simp only [Bool.and_eq_true] at h
      obtain ⟨⟨h0, h1, h2, h4⟩, h3, h5⟩ := h
      obtain ⟨es, j, tp, rfl⟩ := vTup_some h0
      obtain ⟨hg, hm⟩ := freeB_ok g F h1
      exact pi_zipS' hg hm (okE c cl k a X sc W y g F h3).1 (okE c cl k b X sc W z g F h5).1 h2 h4
    · cases h
end
end
end Mi
end
section
set_option linter.all false
set_option maxRecDepth 100000
set_option Elab.async false
set_option maxHeartbeats 2000000
/-! Slots of a body and the evaluator's. -/
namespace Mi
open PySem PySem.Spec PyProof.Rows L2
abbrev AllB : Addr → Prop := fun _ => True
/-- an own list or dict: its items lean on no banned ones -/
def OwnR {τ : Tbs} (pa : Pa τ) (B : Addr → Prop) (H : Hp) (a : Addr) (d : D) : Prop := match d with
  | .lst ds => ∃ vs, H a = some (.lst vs) ∧ vs.length ≤ line ∧ RepL pa B H vs ds
  | .dct ds => ∃ kvs, H a = some (.dK kvs) ∧ kvs.length ≤ line ∧ RepK pa B H kvs ds
  | _ => False
def OwnAt (g : Gs) (σ : L2.St) (i : Nat) (a : Addr) : Prop := ∃ d, g[i]? = some (some (d, true)) ∧ σ[i]? = some (some (.ref a))
def Bn (B0 : Addr → Prop) (g : Gs) (σ : L2.St) : Addr → Prop := fun a => B0 a ∨ ∃ i, OwnAt g σ i a
def Bm (B0 : Addr → Prop) (ms : List Nat) (g : Gs) (σ : L2.St) : Addr → Prop := fun a => B0 a ∨ ∃ i, i ∉ ms ∧ OwnAt g σ i a
/-- what stood at the entry -/
structure Ent {τ : Tbs} (pa : Pa τ) (B0 : Addr → Prop) (H0 : Hp) : Prop where
  bp : B0 pa.p
  bd : ∀ a, B0 a → ∃ o, H0 a = some o ∧ NT o
  hp : ∃ o, H0 pa.p = some o ∧ NT o
  hc : ∃ o, H0 pa.c = some o ∧ NT o
/-- what leans on lists, dicts that are not banned -/
def Stab (Z : (Addr → Prop) → Hp → Prop) : Prop := ∀ B B' H H', Z B H → Keeps B B' H H' → Z B' H'
structure RelS (Z : (Addr → Prop) → Hp → Prop) {τ : Tbs} (pa : Pa τ) (B0 : Addr → Prop) (H0 : Hp) (b : Nat) (H : Hp) (σ : L2.St) (g : Gs) : Prop where
  ent : Ent pa B0 H0
  hk : Hk pa b H
  ex : Ex pa H0 H
  len : g.length ≤ σ.length
  val : ∀ (i : Nat) (d : D), g[i]? = some (some (d, false)) → ∃ v, σ[i]? = some (some v) ∧ Rep pa (Bn B0 g σ) H v d
  own : ∀ (i : Nat) (d : D), g[i]? = some (some (d, true)) → ∃ a, σ[i]? = some (some (.ref a)) ∧ Nw H0 a ∧ OwnR pa (Bn B0 g σ) H a d
  inj : ∀ (i j : Nat) (a : Addr), OwnAt g σ i a → OwnAt g σ j a → i = j
  zs : Stab Z
  z : Z (Bn B0 g σ) H
section
variable {Z : (Addr → Prop) → Hp → Prop} {τ : Tbs} {pa : Pa τ} {B0 B : Addr → Prop} {H0 H H' : Hp} {b b' : Nat} {σ : L2.St} {g : Gs} {ms : List Nat} {a : Addr} {d : D}
theorem OwnR.tracked (o : OwnR pa B H a d) : ∃ u, H a = some u ∧ NT u := by
  cases d with
  | lst ds => obtain ⟨vs, e, _⟩ := o; exact ⟨_, e, by intro ps w; cases w⟩
  | dct ds => obtain ⟨vs, e, _⟩ := o; exact ⟨_, e, by intro ps w; cases w⟩
  | _ => exact o.elim
theorem OwnR.plain (o : OwnR pa B H a d) : ∀ u, H a = some u → (∀ ps, u ≠ .tbl ps) ∧ ∀ phi, u ≠ .ext phi := by
  cases d with
  | lst ds => obtain ⟨vs, e, _⟩ := o; exact put_lst e
  | dct ds => obtain ⟨vs, e, _⟩ := o; exact put_dct e
  | _ => exact o.elim
theorem OwnR.ntup (o : OwnR pa B H a d) : ∀ vs, H a ≠ some (.tup vs) := by
  cases d with
  | lst ds => obtain ⟨vs, e, _⟩ := o; intro ts z; rw [e] at z; cases z
  | dct ds => obtain ⟨vs, e, _⟩ := o; intro ts z; rw [e] at z; cases z
  | _ => exact o.elim
theorem OwnR.next (o : OwnR pa B H a d) : ∀ phi, H a ≠ some (.ext phi) := by
  cases d with
  | lst ds => obtain ⟨vs, e, _⟩ := o; intro phi z; rw [e] at z; cases z
  | dct ds => obtain ⟨vs, e, _⟩ := o; intro phi z; rw [e] at z; cases z
  | _ => exact o.elim
/-- it stands on -/
theorem OwnR.keeps {B' : Addr → Prop} (o : OwnR pa B H a d) (k : Keeps B B' H H') (e : ∀ u, H a = some u → (∀ ps, u ≠ .tbl ps) → H' a = some u) : OwnR pa B' H' a d := by
  cases d with
  | lst ds => obtain ⟨vs, g, l, r⟩ := o; exact ⟨vs, e _ g (by intro ps z; cases z), l, r.keeps k⟩
  | dct ds => obtain ⟨vs, g, l, r⟩ := o; exact ⟨vs, e _ g (by intro ps z; cases z), l, r.keeps k⟩
  | _ => exact o.elim
theorem OwnR.ex (o : OwnR pa B H a d) (x : Ex pa H H') (hk : Hk pa b H) (bp : B pa.p) (hp : a ≠ pa.p) : OwnR pa B H' a d := o.keeps (x.keeps hk bp) fun u e t => x.keep a u e hp t
theorem OwnR.rep {B' : Addr → Prop} (o : OwnR pa B H a d) (le : ∀ x, B' x → B x) (h : ¬ B' a) : Rep pa B' H (.ref a) d := by
  cases d with
  | lst ds => obtain ⟨vs, e, l, r⟩ := o; exact .lst h e l (r.keeps (Keeps.less le))
  | dct ds => obtain ⟨vs, e, l, r⟩ := o; exact .dct h (.inl e) l (r.keeps (Keeps.less le))
  | _ => exact o.elim
theorem OwnR.of {B' : Addr → Prop} (r : Rep pa B H (.ref a) d) (nf : NF H a) (h : immEl d = true) (hf : ∀ ds, d ≠ .tup ds) (hp : d ≠ .pen) (hx : ∀ i, d ≠ .exc i) : OwnR pa B' H a d := by
  cases r with
  | lst n e l r => exact ⟨_, e, l, r.imm h⟩
  | dct n e l r =>
    rcases e with e | ⟨o, e⟩
    · exact ⟨_, e, l, r.imm h⟩
    · exact (nf _ _ e).elim
  | tup e l r => exact absurd rfl (hf _)
  | pen => exact absurd rfl hp
  | exc _ _ _ => exact absurd rfl (hx _)
theorem RelS.ne (r : RelS Z pa B0 H0 b H σ g) (h : Nw H0 a) : a ≠ pa.p ∧ a ≠ pa.c := by
  obtain ⟨o1, e1, t1⟩ := r.ent.hp
  obtain ⟨o2, e2, t2⟩ := r.ent.hc
  exact ⟨(Nw.ne e1 t1 h).symm, (Nw.ne e2 t2 h).symm⟩
theorem OwnAt.got {i : Nat} (r : RelS Z pa B0 H0 b H σ g) (o : OwnAt g σ i a) : ∃ d, g[i]? = some (some (d, true)) ∧ Nw H0 a ∧ OwnR pa (Bn B0 g σ) H a d := by
  obtain ⟨d, h1, h2⟩ := o
  obtain ⟨a', h3, h4, h5⟩ := r.own i d h1
  rw [h2] at h3
  cases h3
  exact ⟨d, h1, h4, h5⟩
theorem RelS.bmd (r : RelS Z pa B0 H0 b H σ g) : ∀ a, Bn B0 g σ a → ∃ o, H a = some o ∧ NT o := fun a h => by
  rcases h with h | ⟨i, h⟩
  · obtain ⟨o, e, t⟩ := r.ent.bd a h
    exact r.ex.dom a o e t
  · obtain ⟨d, _, _, o⟩ := h.got r
    exact o.tracked
theorem Bm.le : ∀ a, Bm B0 ms g σ a → Bn B0 g σ a := fun a h => by
  rcases h with h | ⟨i, _, h⟩
  · exact .inl h
  · exact .inr ⟨i, h⟩
theorem RelS.rm (r : RelS Z pa B0 H0 b H σ g) : Rm pa (Bm B0 ms g σ) b H := ⟨r.hk, .inl r.ent.bp, fun a h => r.bmd a (Bm.le a h)⟩
theorem vis_get : ∀ (g : Gs) (k i : Nat), (visAt ms k g)[i]? = match g[i]? with
    | some (some (d, o)) => some (match o && !(ms.contains (k + i)) with
      | true => none
      | false => some d)
    | some none => some none
    | none => none
  | [], k, i => by simp [visAt]
  | none :: r, k, 0 => by simp [visAt]
  | some (d, o) :: r, k, 0 => by
    cases o <;> cases h : ms.contains k <;> simp only [visAt, List.getElem?_cons_zero, Nat.add_zero, h] <;> rfl
  | none :: r, k, i + 1 => by
    simp only [visAt, List.getElem?_cons_succ]
    rw [vis_get r (k + 1) i, show k + 1 + i = k + (i + 1) by omega]
  | some (d, o) :: r, k, i + 1 => by
    simp only [visAt, List.getElem?_cons_succ]
    rw [vis_get r (k + 1) i, show k + 1 + i = k + (i + 1) by omega]
theorem vis_len : ∀ (g : Gs) (k : Nat), (visAt ms k g).length = g.length
  | [], _ => rfl
  | none :: r, k => congrArg Nat.succ (vis_len r (k + 1))
  | some (_, _) :: r, k => congrArg Nat.succ (vis_len r (k + 1))
theorem clr_get : ∀ (g : Gs) (k i : Nat), (clrAt ms k g)[i]? = match g[i]? with
    | some (some (d, o)) => some (some (d, o && !(ms.contains (k + i))))
    | some none => some none
    | none => none
  | [], k, i => by simp [clrAt]
  | none :: r, k, 0 => by simp [clrAt]
  | some (d, o) :: r, k, 0 => by simp [clrAt]
  | none :: r, k, i + 1 => by
    simp only [clrAt, List.getElem?_cons_succ]
    rw [clr_get r (k + 1) i, show k + 1 + i = k + (i + 1) by omega]
  | some (d, o) :: r, k, i + 1 => by
    simp only [clrAt, List.getElem?_cons_succ]
    rw [clr_get r (k + 1) i, show k + 1 + i = k + (i + 1) by omega]
theorem clr_len : ∀ (g : Gs) (k : Nat), (clrAt ms k g).length = g.length
  | [], _ => rfl
  | none :: r, k => congrArg Nat.succ (clr_len r (k + 1))
  | some (_, _) :: r, k => congrArg Nat.succ (clr_len r (k + 1))
/-- named own ones are no more than values -/
theorem RelS.own_rep (r : RelS Z pa B0 H0 b H σ g) {i : Nat} (hi : i ∈ ms) (h : g[i]? = some (some (d, true))) : ∃ a, σ[i]? = some (some (.ref a)) ∧ Rep pa (Bm B0 ms g σ) H (.ref a) d := by
  obtain ⟨a, h1, h2, h3⟩ := r.own i d h
  refine ⟨a, h1, h3.rep Bm.le fun z => ?_⟩
  rcases z with z | ⟨j, hj, z⟩
  · obtain ⟨o, e, t⟩ := r.ent.bd a z
    obtain ⟨ps, w⟩ := h2 o e
    exact (t ps w).elim
  · exact hj (r.inj i j a ⟨d, h, h1⟩ z ▸ hi)
theorem RelS.okk (r : RelS Z pa B0 H0 b H σ g) : Okk pa (Bm B0 ms g σ) b H σ (vis ms g) := by
  refine ⟨r.rm, by rw [vis, vis_len]; exact r.len, fun i d e => ?_⟩
  rw [vis, vis_get] at e
  split at e
  · rename_i d' o hg
    cases o with
    | false =>
      simp at e
      subst e
      obtain ⟨v, h1, h2⟩ := r.val i d' hg
      exact ⟨v, h1, h2.keeps (Keeps.less Bm.le)⟩
    | true =>
      by_cases hm : i ∈ ms
      · have : (true && !(ms.contains (0 + i))) = false := by simp [hm]
        rw [this] at e
        simp at e
        subst e
        obtain ⟨a, h1, h2⟩ := r.own_rep hm hg
        exact ⟨_, h1, h2⟩
      · have : (true && !(ms.contains (0 + i))) = true := by simp [hm]
        rw [this] at e
        simp at e
  · simp at e
  · cases e
theorem RelS.step (r : RelS Z pa B0 H0 b H σ g) (x : Ex pa H H') (k : Hk pa b' H') : RelS Z pa B0 H0 b' H' σ g := by
  have bp : Bn B0 g σ pa.p := .inl r.ent.bp
  refine ⟨r.ent, k, r.ex.trans x, r.len, fun i d h => ?_, fun i d h => ?_, r.inj, r.zs, r.zs _ _ _ _ r.z (x.keeps r.hk bp)⟩
  · obtain ⟨v, h1, h2⟩ := r.val i d h
    exact ⟨v, h1, h2.keeps (x.keeps r.hk bp)⟩
  · obtain ⟨a, h1, h2, h3⟩ := r.own i d h
    exact ⟨a, h1, h2, h3.ex x r.hk bp (r.ne h2).1⟩
theorem own_clr {i : Nat} : OwnAt (clr false ms g) σ i a ↔ i ∉ ms ∧ OwnAt g σ i a := by
  unfold OwnAt clr
  simp only [clr_get]
  constructor
  · rintro ⟨d, h1, h2⟩
    split at h1
    · rename_i d' o hg
      simp at h1
      obtain ⟨rfl, rfl, h3⟩ := h1
      exact ⟨h3, d', hg, h2⟩
    · simp at h1
    · cases h1
  · rintro ⟨h1, d, h2, h3⟩
    refine ⟨d, ?_, h3⟩
    rw [h2]
    simp [h1]
theorem Bn_clr : Bn B0 (clr false ms g) σ = Bm B0 ms g σ := by
  funext a
  apply propext
  constructor
  · rintro (h | ⟨i, h⟩)
    · exact .inl h
    · obtain ⟨h1, h2⟩ := own_clr.mp h
      exact .inr ⟨i, h1, h2⟩
  · rintro (h | ⟨i, h1, h2⟩)
    · exact .inl h
    · exact .inr ⟨i, own_clr.mpr ⟨h1, h2⟩⟩
theorem RelS.clrF (r : RelS Z pa B0 H0 b H σ g) (ms : List Nat) : RelS Z pa B0 H0 b H σ (clr false ms g) := by
  refine ⟨r.ent, r.hk, r.ex, by show (clrAt ms 0 g).length ≤ _; rw [clr_len]; exact r.len, fun i d h => ?_, fun i d h => ?_, fun i j a h1 h2 => r.inj i j a (own_clr.mp h1).2 (own_clr.mp h2).2, r.zs, by rw [Bn_clr]; exact r.zs _ _ _ _ r.z (Keeps.less Bm.le)⟩
  · rw [Bn_clr]
    have h : (clrAt ms 0 g)[i]? = _ := h
    rw [clr_get] at h
    split at h
    · rename_i d' o hg
      simp at h
      obtain ⟨rfl, h⟩ := h
      cases o with
      | false =>
        obtain ⟨v, h1, h2⟩ := r.val i d' hg
        exact ⟨v, h1, h2.keeps (Keeps.less Bm.le)⟩
      | true =>
        obtain ⟨a, h1, h2⟩ := r.own_rep (ms := ms) (h rfl) hg
        exact ⟨_, h1, h2⟩
    · simp at h
    · cases h
  · have h : (clrAt ms 0 g)[i]? = _ := h
    rw [clr_get] at h
    split at h
    · rename_i d' o hg
      simp at h
      obtain ⟨rfl, rfl, h⟩ := h
      obtain ⟨a, h1, h2, h3⟩ := r.own i d' hg
      exact ⟨a, h1, h2, by rw [Bn_clr]; exact h3.keeps (Keeps.less Bm.le) fun _ e _ => e⟩
    · simp at h
    · cases h
theorem own_set {v : V} {i j : Nat} {x : Option (D × Bool)} (h : OwnAt (g.set i x) (σ.set i (some v)) j a) (hx : ∀ d, x ≠ some (d, true)) : OwnAt g σ j a ∧ j ≠ i := by
  obtain ⟨d, h1, h2⟩ := h
  by_cases e : i = j
  · subst e
    have hl : i < g.length := by
      obtain ⟨z, _⟩ := List.getElem?_eq_some_iff.mp h1
      simpa using z
    rw [List.getElem?_set_self hl] at h1
    exact absurd (Option.some.inj h1) (hx d)
  · rw [List.getElem?_set_ne e] at h1 h2
    exact ⟨⟨d, h1, h2⟩, fun z => e z.symm⟩
/-- a slot is set to a value -/
theorem RelS.setv {v : V} {i : Nat} (r : RelS Z pa B0 H0 b H σ g) (rv : Rep pa (Bn B0 g σ) H v d) : RelS Z pa B0 H0 b H (σ.set i (some v)) (g.set i (some (d, false))) := by
  have hx : ∀ d', (some (d, false) : Option (D × Bool)) ≠ some (d', true) := fun d' z => by cases z
  have le : ∀ a, Bn B0 (g.set i (some (d, false))) (σ.set i (some v)) a → Bn B0 g σ a := fun a h => by
    rcases h with h | ⟨j, h⟩
    · exact .inl h
    · exact .inr ⟨j, (own_set h hx).1⟩
  refine ⟨r.ent, r.hk, r.ex, by rw [List.length_set, List.length_set]; exact r.len, fun j e h => ?_, fun j e h => ?_, fun j l a h1 h2 => r.inj j l a (own_set h1 hx).1 (own_set h2 hx).1, r.zs, r.zs _ _ _ _ r.z (Keeps.less le)⟩
  · by_cases hij : i = j
    · subst hij
      have hl : i < g.length := by
        obtain ⟨z, _⟩ := List.getElem?_eq_some_iff.mp h
        simpa using z
      rw [List.getElem?_set_self hl] at h
      cases h
      exact ⟨v, List.getElem?_set_self (Nat.lt_of_lt_of_le hl r.len), rv.keeps (Keeps.less le)⟩
    · rw [List.getElem?_set_ne hij] at h
      obtain ⟨u, h1, h2⟩ := r.val j e h
      exact ⟨u, by rw [List.getElem?_set_ne hij]; exact h1, h2.keeps (Keeps.less le)⟩
  · by_cases hij : i = j
    · subst hij
      have hl : i < g.length := by
        obtain ⟨z, _⟩ := List.getElem?_eq_some_iff.mp h
        simpa using z
      rw [List.getElem?_set_self hl] at h
      cases h
    · rw [List.getElem?_set_ne hij] at h
      obtain ⟨a, h1, h2, h3⟩ := r.own j e h
      exact ⟨a, by rw [List.getElem?_set_ne hij]; exact h1, h2, h3.keeps (Keeps.less le) fun _ e _ => e⟩
/-- a slot is set to a new list or dict that stands at H' -/
theorem RelS.setf {i : Nat} (r : RelS Z pa B0 H0 b H σ g) (x : Ex pa H H') (k : Hk pa b' H') (ha : Nw H a) (o : ∀ B', OwnR pa B' H' a d) : RelS Z pa B0 H0 b' H' (σ.set i (some (.ref a))) (g.set i (some (d, true))) := by
  have h0 : Nw H0 a := r.ex.free ha
  have own' : ∀ {j : Nat} {c : Addr}, OwnAt (g.set i (some (d, true))) (σ.set i (some (.ref a))) j c → (j = i ∧ c = a) ∨ (j ≠ i ∧ OwnAt g σ j c) := fun {j c} h => by
    obtain ⟨e, h1, h2⟩ := h
    by_cases hij : i = j
    · subst hij
      have hl : i < σ.length := by
        obtain ⟨z, _⟩ := List.getElem?_eq_some_iff.mp h2
        simpa using z
      rw [List.getElem?_set_self hl] at h2
      cases h2
      exact .inl ⟨rfl, rfl⟩
    · rw [List.getElem?_set_ne hij] at h1 h2
      exact .inr ⟨fun z => hij z.symm, e, h1, h2⟩
  have kk : Keeps (Bn B0 g σ) (Bn B0 (g.set i (some (d, true))) (σ.set i (some (.ref a)))) H H' := by
    have k0 : Keeps (Bn B0 g σ) (Bn B0 g σ) H H' := x.keeps r.hk (.inl r.ent.bp)
    refine ⟨k0.tup, k0.lst, k0.dct, fun c n e z => ?_, k0.ext⟩
    rcases z with z | ⟨j, z⟩
    · exact n (.inl z)
    · rcases own' z with ⟨_, rfl⟩ | ⟨_, z⟩
      · exact e ha
      · exact n (.inr ⟨j, z⟩)
  refine ⟨r.ent, k, r.ex.trans x, by rw [List.length_set, List.length_set]; exact r.len, fun j e h => ?_, fun j e h => ?_, fun j l c h1 h2 => ?_, r.zs, r.zs _ _ _ _ r.z kk⟩
  · by_cases hij : i = j
    · subst hij
      have hl : i < g.length := by
        obtain ⟨z, _⟩ := List.getElem?_eq_some_iff.mp h
        simpa using z
      rw [List.getElem?_set_self hl] at h
      cases h
    · rw [List.getElem?_set_ne hij] at h
      obtain ⟨u, h1, h2⟩ := r.val j e h
      exact ⟨u, by rw [List.getElem?_set_ne hij]; exact h1, h2.keeps kk⟩
  · by_cases hij : i = j
    · subst hij
      have hl : i < g.length := by
        obtain ⟨z, _⟩ := List.getElem?_eq_some_iff.mp h
        simpa using z
      rw [List.getElem?_set_self hl] at h
      cases h
      exact ⟨a, List.getElem?_set_self (Nat.lt_of_lt_of_le hl r.len), h0, o _⟩
    · rw [List.getElem?_set_ne hij] at h
      obtain ⟨c, h1, h2, h3⟩ := r.own j e h
      exact ⟨c, by rw [List.getElem?_set_ne hij]; exact h1, h2, h3.keeps kk fun u e t => x.keep c u e (r.ne h2).1 t⟩
  · rcases own' h1 with ⟨e1, e2⟩ | ⟨n1, q1⟩
    · rcases own' h2 with ⟨e3, _⟩ | ⟨n2, q2⟩
      · exact e1.trans e3.symm
      · obtain ⟨d', _, _, o'⟩ := q2.got r
        obtain ⟨u, e, t⟩ := o'.tracked
        rw [e2] at e
        exact (not_nw e t ha).elim
    · rcases own' h2 with ⟨e1, e2⟩ | ⟨n2, q2⟩
      · obtain ⟨d', _, _, o'⟩ := q1.got r
        obtain ⟨u, e, t⟩ := o'.tracked
        rw [e2] at e
        exact (not_nw e t ha).elim
      · exact r.inj j l c q1 q2
/-- an own list or dict is written -/
theorem RelS.write {i : Nat} {u : HO} {d' : D} (r : RelS Z pa B0 H0 b H σ g) (h : g[i]? = some (some (d, true))) (hs : σ[i]? = some (some (.ref a))) (o : OwnR pa (Bn B0 g σ) (upd H a u) a d') : RelS Z pa B0 H0 b (upd H a u) σ (g.set i (some (d', true))) := by
  obtain ⟨d0, e0, h0, oo⟩ := OwnAt.got r ⟨d, h, hs⟩
  rw [h] at e0
  cases e0
  obtain ⟨u0, hu, _⟩ := oo.tracked
  have ht : ∀ vs, u0 ≠ .tup vs := fun vs z => oo.ntup vs (by rw [hu, z])
  have hx : ∀ phi, u0 ≠ .ext phi := fun phi z => oo.next phi (by rw [hu, z])
  have hl : i < g.length := by
    obtain ⟨z, _⟩ := List.getElem?_eq_some_iff.mp h
    exact z
  have own' : ∀ {j : Nat} {c : Addr}, OwnAt (g.set i (some (d', true))) σ j c ↔ OwnAt g σ j c := fun {j c} => by
    unfold OwnAt
    by_cases hij : i = j
    · subst hij
      rw [List.getElem?_set_self hl]
      exact ⟨fun ⟨e, _, h2⟩ => ⟨d, h, h2⟩, fun ⟨e, _, h2⟩ => ⟨d', rfl, h2⟩⟩
    · rw [List.getElem?_set_ne hij]
  have hB : Bn B0 (g.set i (some (d', true))) σ = Bn B0 g σ := by
    funext c
    apply propext
    constructor
    · rintro (z | ⟨j, z⟩)
      · exact .inl z
      · exact .inr ⟨j, own'.mp z⟩
    · rintro (z | ⟨j, z⟩)
      · exact .inl z
      · exact .inr ⟨j, own'.mpr z⟩
  have kk : Keeps (Bn B0 g σ) (Bn B0 g σ) H (upd H a u) := Keeps.write (.inr ⟨i, d, h, hs⟩) hu ht hx
  obtain ⟨np, nc⟩ := r.ne h0
  refine ⟨r.ent, r.hk.put np nc oo.plain, ⟨fun c o' e n t => ?_, fun c o' e t => ?_⟩, by rw [List.length_set]; exact r.len, fun j e hg => ?_, fun j e hg => ?_, fun j l c h1 h2 => r.inj j l c (own'.mp h1) (own'.mp h2), r.zs, by rw [hB]; exact r.zs _ _ _ _ r.z kk⟩
  · rw [upd_ne (Nw.ne e t h0)]
    exact r.ex.keep c o' e n t
  · obtain ⟨o2, e2, t2⟩ := r.ex.dom c o' e t
    exact ⟨o2, by rw [upd_ne (Nw.ne e t h0)]; exact e2, t2⟩
  · rw [hB]
    by_cases hij : i = j
    · subst hij
      rw [List.getElem?_set_self hl] at hg
      cases hg
    · rw [List.getElem?_set_ne hij] at hg
      obtain ⟨v, h1, h2⟩ := r.val j e hg
      exact ⟨v, h1, h2.keeps kk⟩
  · by_cases hij : i = j
    · subst hij
      rw [List.getElem?_set_self hl] at hg
      cases hg
      exact ⟨a, hs, h0, by rw [hB]; exact o⟩
    · rw [List.getElem?_set_ne hij] at hg
      obtain ⟨c, h1, h2, h3⟩ := r.own j e hg
      have nca : c ≠ a := fun z => hij (r.inj i j a ⟨d, h, hs⟩ ⟨e, hg, by rw [← z]; exact h1⟩)
      refine ⟨c, h1, h2, ?_⟩
      rw [hB]
      exact h3.keeps kk fun u' e' _ => by rw [upd_ne nca]; exact e'
end
end Mi
end
section
set_option linter.all false
set_option maxRecDepth 100000
set_option Elab.async false
set_option maxHeartbeats 2000000
/-! Statements: assignments. -/
namespace Mi
open PySem PySem.Spec PyProof.Rows L2
def PoC (Z : (Addr → Prop) → Hp → Prop) {τ : Tbs} (pa : Pa τ) (B0 : Addr → Prop) (H0 : Hp) (T : Ends) : Nat → Fl → Prop := fun b fl => match fl with
  | .next g => ∀ σ' H', RelS Z pa B0 H0 b H' σ' g → T.nx σ' H'
  | .brk g => ∀ σ' H', RelS Z pa B0 H0 b H' σ' g → T.bk σ' H'
  | .cont g => ∀ σ' H', RelS Z pa B0 H0 b H' σ' g → T.ct σ' H'
  | .ret d => ∀ v H', Ex pa H0 H' → Hk pa b H' → Rep pa B0 H' v d → T.rt v H'
def ErC (K : PySem.W.Frag) (c : Cfg) (W : WX) (pa : Pa (c.T K)) (H0 : Hp) : Nat → Nat → Prop := fun b i => ∀ σ' H', Ex pa H0 H' → Hk pa b H' → W (xv K c i) none σ' H'
def tC (K : PySem.W.Frag) (c : Cfg) (W : WX) (f : Gs → Tr Fl) : TS := fun T σ H => ∃ g Z pa B0 H0 b, RelS Z pa B0 H0 b H σ g ∧ (f g).wp b (PoC Z pa B0 H0 T) (ErC K c W pa H0)
section
variable {K : PySem.W.Frag} {c : Cfg} {Z : (Addr → Prop) → Hp → Prop} {pa : Pa (c.T K)} {B0 B : Addr → Prop} {H0 H H' H1 : Hp} {b b' b1 : Nat} {σ : L2.St} {g : Gs} {ms : List Nat} {d : D} {W : WX}
theorem ErC.er (r : RelS Z pa B0 H0 b H σ g) {n i : Nat} (h : ErC K c W pa H0 n i) : Er K c W pa σ H n i := fun H' x k => h σ H' (r.ex.trans x) k
theorem Bm.clr : Bn B0 (clr false ms g) σ = Bm B0 ms g σ := Bn_clr
/-- named ones are own no more, or all is plain -/
theorem RelS.clrB (r : RelS Z pa B0 H0 b H σ g) (f : Bool) (ms : List Nat) : RelS Z pa B0 H0 b H σ (clr f ms g) := by
  cases f with
  | true => exact r
  | false => exact r.clrF ms
/-- what came stands beside the slots -/
theorem rep_clr {f : Bool} {v : V} (rv : Rep pa (Bm B0 ms g σ) H v d) (h : f = true → imm d = true) : Rep pa (Bn B0 (clr f ms g) σ) H v d := by
  cases f with
  | true => exact rv.imm (h rfl)
  | false => rw [Bn_clr]; exact rv
theorem reps_clr {f : Bool} {vs : List V} {ds : List D} (rv : RepL pa (Bm B0 ms g σ) H vs ds) (h : f = true → immAll ds = true) : RepL pa (Bn B0 (clr f ms g) σ) H vs ds := by
  cases f with
  | true => exact rv.imm (h rfl)
  | false => rw [Bn_clr]; exact rv
theorem ownB_own {e : E} {v : V} (h : ownB e d = true) (rv : Rep pa B H v d) (hv : ∃ a, v = .ref a ∧ NF H a) : ∃ a, v = .ref a ∧ ∀ B', OwnR pa B' H a d := by
  obtain ⟨a, rfl, nf⟩ := hv
  unfold ownB at h
  simp only [Bool.and_eq_true] at h
  obtain ⟨_, h1, h2⟩ := h
  refine ⟨a, rfl, fun B' => OwnR.of rv nf h2 (fun ds z => ?_) (fun z => ?_) (fun i z => ?_)⟩
  · rw [z] at h1
    cases h1
  · rw [z] at h1
    cases h1
  · rw [z] at h1
    cases h1
theorem RelS.after {i : Nat} {e : E} {v : V} (r : RelS Z pa B0 H0 b H σ g) (x : Ex pa H H1) (kk : Hk pa b1 H1) (rv : Rep pa (Bm B0 ms g σ) H1 v d) (fr : e.fresh = true → ∃ a, v = .ref a ∧ Nw H a ∧ NF H1 a) :
    RelS Z pa B0 H0 b1 H1 (σ.set i (some v)) ((clr (ownB e d || imm d) ms g).set i (some (d, ownB e d))) := by
  have r1 := r.clrB (ownB e d || imm d) ms
  cases ho : ownB e d with
  | true =>
    have hf : e.fresh = true := by
      unfold ownB at ho
      exact (Bool.and_eq_true_iff.mp ho).1
    obtain ⟨a, ea, ha, nf⟩ := fr hf
    obtain ⟨a', ea', oo⟩ := ownB_own ho rv ⟨a, ea, nf⟩
    rw [ea] at ea'
    cases ea'
    subst ea
    rw [ho] at r1
    exact r1.setf x kk ha oo
  | false =>
    rw [ho] at r1
    refine (r1.step x kk).setv ?_
    exact rep_clr rv (fun h => by simpa using h)
theorem setv_le {i : Nat} {v : V} : ∀ a, Bn B0 (g.set i (some (d, false))) (σ.set i (some v)) a → Bn B0 g σ a := fun a h => by
  rcases h with h | ⟨j, h⟩
  · exact .inl h
  · exact .inr ⟨j, (own_set h (fun d' z => by cases z)).1⟩
theorem RelS.sets : ∀ {is : List Nat} {vs : List V} {ds : List D} {σ : L2.St} {g : Gs}, RelS Z pa B0 H0 b H σ g → RepL pa (Bn B0 g σ) H vs ds → ds.length = is.length → RelS Z pa B0 H0 b H (setAll σ is vs) (setsS g is ds) ∧ ∀ a, Bn B0 (setsS g is ds) (setAll σ is vs) a → Bn B0 g σ a
  | [], _, _, σ, g, r, rv, hl => by
    cases rv with
    | nil => exact ⟨by simpa [setAll, setsS] using r, fun a h => by simpa [setAll, setsS] using h⟩
    | cons _ _ => cases hl
  | i :: is, _, _, σ, g, r, rv, hl => by
    cases rv with
    | nil => cases hl
    | cons rv t =>
      obtain ⟨h1, h2⟩ := RelS.sets (is := is) (r.setv (i := i) rv) (t.keeps (Keeps.less setv_le)) (Nat.succ.inj hl)
      exact ⟨h1, fun a h => setv_le a (h2 a h)⟩
end
/-! ### new lists and dicts -/
section
variable {X : Cx} {c : Cfg} {sc : Scope} {cl : Cl} {k : Nat} {W : WX}
theorem okF (e : E) (hf : e.fresh = true) {ast : Expr} (g : Gd X c sc cl k W) (F : Fc X.prog X.w X.K X.mg X.base c cl k) (h : chkE c sc e ast = true) : PE X ast (tF X.K c W (ev cl c.tb e)) := by
  cases e with
  | lst es =>
    simp only [chkE] at h
    split at h
    · rename_i xs hx
      obtain ⟨p, rfl⟩ := vLst_ok hx
      simp only [Bool.and_eq_true, decide_eq_true_eq] at h
      obtain ⟨h1, h2, h3⟩ := okEs c cl k es X sc W xs g F h.2
      exact pe_lst' h1 (hl_of (X := X) (sc := sc) (W := W) h3 h.1)
    · cases h
  | dct0 =>
    simp only [chkE] at h
    split at h
    · rename_i hx
      obtain ⟨p, rfl⟩ := vDict_ok hx
      exact pe_dct0'
    · cases h
  | dct1 a b =>
    simp only [chkE] at h
    split at h
    · rename_i x y hx
      obtain ⟨p, rfl⟩ := vDict_ok hx
      simp only [Bool.and_eq_true] at h
      exact pe_dct1' (okE c cl k a X sc W x g F h.1).1 (okE c cl k b X sc W y g F h.2).1
    · cases h
  | bi f es =>
    cases f with
    | list =>
      simp only [chkE] at h
      split at h
      · rename_i x xs hx
        obtain ⟨p, q, rfl⟩ := vCall_ok hx
        simp only [Bool.and_eq_true, decide_eq_true_eq] at h
        obtain ⟨-, ⟨rfl, h1, h2⟩, h3⟩ := h
        obtain ⟨hg, hm⟩ := freeB_ok g F h2
        obtain ⟨h5, h6, h7⟩ := okEs c cl k es X sc W xs g F h3
        cases xs with
        | nil => exact absurd rfl h1
        | cons x xs => exact pe_list' hg hm PyProof.Rows.boot_list (by decide) h5 h6
      · cases h
    | _ => cases hf
  | sortk a =>
    simp only [chkE] at h
    split at h
    · rename_i x hx
      obtain ⟨p, q, p2, p3, rfl⟩ := vSortK_ok hx
      simp only [Bool.and_eq_true] at h
      obtain ⟨⟨h1, h2, h3, h4⟩, h5⟩ := h
      obtain ⟨hg, hm⟩ := freeB_ok g F h2
      exact pe_sortk' g F h1 hg hm (Gl_of g h3) (okE c cl k a X sc W x g F h5).1 h4
    · cases h
  | lc s g' e =>
    simp only [chkE] at h
    split at h
    · rename_i elt tg it scope hx
      obtain ⟨p, rfl⟩ := vLc_ok hx
      simp only [Bool.and_eq_true] at h
      obtain ⟨⟨⟨h1, h2⟩, h3⟩, h4, h5⟩ := h
      exact pe_lc' g (okS c cl k s X sc W tg it g F h4) h1 h2 h3 fun s H C cv fp => (okE c cl k e _ _ _ elt (g.blk s H C cv fp) F h5).1
    · cases h
  | lcIf s g' t e =>
    simp only [chkE] at h
    split at h
    · rename_i elt tg itr ct scope hx
      obtain ⟨p, rfl⟩ := vLc_ok hx
      simp only [Bool.and_eq_true] at h
      obtain ⟨⟨⟨h1, h2⟩, h3, h6⟩, h4, h5, h7⟩ := h
      exact pe_lcIf' g (okS c cl k s X sc W tg itr g F h4) h1 h2 h3 (fun s H C cv fp => (okE c cl k t _ _ _ ct (g.blk s H C cv fp) F h5).2.1 h6) fun s H C cv fp => (okE c cl k e _ _ _ elt (g.blk s H C cv fp) F h7).1
    · cases h
  | dc s g' a b =>
    simp only [chkE] at h
    split at h
    · rename_i kx vx tg it scope hx
      obtain ⟨p, rfl⟩ := vDc_ok hx
      simp only [Bool.and_eq_true] at h
      obtain ⟨⟨⟨h1, h2⟩, h3⟩, h4, h5, h6⟩ := h
      exact pe_dc' g (okS c cl k s X sc W tg it g F h4) h1 h2 h3 (fun s H C cv fp => (okE c cl k a _ _ _ kx (g.blk s H C cv fp) F h5).1) fun s H C cv fp => (okE c cl k b _ _ _ vx (g.blk s H C cv fp) F h6).1
    · cases h
  | sset a =>
    simp only [chkE] at h
    split at h
    · rename_i x hx
      obtain ⟨p, q, p2, p3, rfl⟩ := vSset_ok hx
      simp only [Bool.and_eq_true] at h
      obtain ⟨⟨h1, h2, h3⟩, h5⟩ := h
      obtain ⟨hg, hm⟩ := freeB_ok g F h1
      obtain ⟨hg2, hm2⟩ := freeB_ok g F h2
      exact pe_sset' g hg hm hg2 hm2 (okE c cl k a X sc W x g F h5).1 h3
    · cases h
  | cat a b =>
    simp only [chkE] at h
    split at h
    · rename_i x op y hx
      obtain ⟨p, rfl⟩ := vBin_ok hx
      simp only [Bool.and_eq_true] at h
      exact pe_catB (sc := sc) (cl := cl) h.1 (okE c cl k a X sc W x g F h.2.1).1 (okE c cl k b X sc W y g F h.2.2).1
    · cases h
  | dcIf s g' t a b =>
    simp only [chkE] at h
    split at h
    · rename_i kx vx tg itr ct scope hx
      obtain ⟨p, rfl⟩ := vDc_ok hx
      simp only [Bool.and_eq_true] at h
      obtain ⟨⟨⟨h1, h2⟩, h3, h3'⟩, h4, h45, h5, h6⟩ := h
      exact pe_dcIf' g (okS c cl k s X sc W tg itr g F h4) h1 h2 h3 (fun s H C cv fp => (okE c cl k t _ _ _ ct (g.blk s H C cv fp) F h45).2.1 h3') (fun s H C cv fp => (okE c cl k a _ _ _ kx (g.blk s H C cv fp) F h5).1) fun s H C cv fp => (okE c cl k b _ _ _ vx (g.blk s H C cv fp) F h6).1
    · cases h
  | _ => cases hf
/-- a value, new where the text is a display -/
def tV (K : PySem.W.Frag) (c : Cfg) (W : WX) (cl : Cl) (e : E) : TE := match e.fresh with
  | true => tF K c W (ev cl c.tb e)
  | false => tE K c W (ev cl c.tb e)
theorem okV (e : E) {ast : Expr} (g : Gd X c sc cl k W) (F : Fc X.prog X.w X.K X.mg X.base c cl k) (h : chkE c sc e ast = true) : PE X ast (tV X.K c W cl e) := by
  unfold tV
  split
  · rename_i hf
    exact okF e hf g F h
  · exact (okE c cl k e X sc W ast g F h).1
theorem tV_t {K : PySem.W.Frag} {e : E} (h : e.fresh = true) : tV K c W cl e = tF K c W (ev cl c.tb e) := by
  unfold tV
  rw [h]
theorem tV_f {K : PySem.W.Frag} {e : E} (h : e.fresh = false) : tV K c W cl e = tE K c W (ev cl c.tb e) := by
  unfold tV
  rw [h]
/-- the value for an assignment -/
theorem tV_asg {K : PySem.W.Frag} {e : E} {i : Nat} {T : Ends} {σ : L2.St} {H : Hp} (h : tC K c W (ex cl c.tb (.asg i e)) T σ H) : tAsg (tV K c W cl e) (gName i) T σ H := by
  obtain ⟨g, Z, pa, B0, H0, b, r, h⟩ := h
  have h1 := (Tr.wp_bind _ _).mp h
  show tV K c W cl e σ H fun v H1 => T.nx (σ.set i (some v)) H1
  cases hf : e.fresh with
  | true =>
    rw [tV_t hf]
    refine ⟨vis e.ment g, pa, Bm B0 e.ment g σ, b, r.okk, Tr.wp_mono (fun b1 d h2 v H1 x kk rv fr => ?_) (fun _ _ z => ErC.er r z) _ _ h1⟩
    exact (show ∀ σ' H', RelS Z pa B0 H0 b1 H' σ' _ → T.nx σ' H' from h2) _ _ (r.after (e := e) x kk rv fun _ => fr)
  | false =>
    rw [tV_f hf]
    refine ⟨vis e.ment g, pa, Bm B0 e.ment g σ, b, r.okk, Tr.wp_mono (fun b1 d h2 v H1 x kk rv => ?_) (fun _ _ z => ErC.er r z) _ _ h1⟩
    exact (show ∀ σ' H', RelS Z pa B0 H0 b1 H' σ' _ → T.nx σ' H' from h2) _ _ (r.after (e := e) x kk rv fun z => by rw [hf] at z; cases z)
end
end Mi
end
section
set_option linter.all false
set_option maxRecDepth 100000
set_option Elab.async false
set_option maxHeartbeats 2000000
/-! Statements: comprehensions that are kept, items, appends. -/
namespace Mi
open PySem PySem.Spec PyProof.Rows L2
section
variable {X : Cx}
/-- name = {..} on one line, the name a local -/
theorem ps_setDc {i : Nat} {y : Str} {py : Pos} {kx vx tg iter : Expr} {ifs : List Expr} {scope : Scope} {own : List (Str × Nat)} {pos spos : Pos} {wi : TI} {g : TG} {tt : TT} {tk tv : TE} (hc : X.calm = true) (hN : X.N.Nodup) (hy : X.N[i]? = some y) (hyl : X.env.scope.names.lookup y = some .local)
    (hsw : swapsWith (.DictComp kx vx [⟨tg, iter, ifs, 0⟩] scope pos) (some (.Name y py)) spos.line X.env = pure true) (hi : PI X tg iter wi) (ok : BlkOk X.N X.env.scope scope own)
    (hg : ∀ (s : Shared) (H : Hp) (C : Addr) (cl : List (Str × Addr)) (fp : List Addr), PG (X.blk s H scope (compEnvC scope cl C X.env) fp) tg g) (ht : ∀ (s : Shared) (H : Hp) (C : Addr) (cl : List (Str × Addr)) (fp : List Addr), PTs (X.blk s H scope (compEnvC scope cl C X.env) fp) ifs tt)
    (hk : ∀ (s : Shared) (H : Hp) (C : Addr) (cl : List (Str × Addr)) (fp : List Addr), PE (X.blk s H scope (compEnvC scope cl C X.env) fp) kx tk)
    (he : ∀ (s : Shared) (H : Hp) (C : Addr) (cl : List (Str × Addr)) (fp : List Addr), PE (X.blk s H scope (compEnvC scope cl C X.env) fp) vx tv) (hs : ∀ x, foldedSetIterable iter X.env x = pure x) :
    PS X (.Assign [.Name y py] (.DictComp kx vx [⟨tg, iter, ifs, 0⟩] scope pos) spos) (tAsg (tDc wi g tt tk tv (own.map (·.2))) (gName i)) := by
  refine ⟨fun pins s σ H D I h => ?_⟩
  rw [exec_Assign_Name_used _ _ _ _ hsw]
  refine wpAny_bind (wpAny_standAt (wpAny_bind ?_))
  show wpAny _ X.A (do let _ ← comprehension (.DictComp kx vx [⟨tg, iter, ifs, 0⟩] scope pos) scope X.env (firstIterPos [⟨tg, iter, ifs, 0⟩] pos) newDict false (eval iter X.env) (some (assign (.Name y py) X.env))) _ _ s
  have h : tDc wi g tt tk tv (own.map (·.2)) σ H (fun x H1 => gName i x σ H1 D.nx) := h
  refine wpAny_bind (thn (dc_core (Qf := fun _ s' => SP X pins D .next s') hc hN I hi ok hg ht hk he hs h fun L C s' m H' I' q hn f => ?_) fun _ s' hq => wpAny_pure (wpAny_pure hq))
  show wpAny _ _ (assign (.Name y py) X.env (.ref L)) _ _ _
  refine wpAny_assign_Name (store_ok2 (v := V.ref L) I' hN hy (.inl hyl) rfl (fun s2 I2 ⟨a, sb, ha⟩ => ?_) (.inr hyl))
  obtain ⟨f0, f1, f2, f3, f4, f5⟩ := f
  have haC : C ≠ a := by
    rcases ha with z | z
    · rw [z]; exact f1
    · exact fun e => f4 y a z e.symm
  refine ⟨m, hn.sameBut sb haC, fun h3 sb3 => ?_⟩
  exact ⟨_, H', I2.turned (t' := s2.toks) (fun b o hb e => (sb3.2 b hb).trans e) f0 f1 f3 f4 f5, q⟩
end
/-! ### name = value -/
def compOf : Expr → Option Scope
  | .ListComp _ _ s _ => some s
  | .SetComp _ _ s _ => some s
  | .DictComp _ _ _ s _ => some s
  | _ => none
/-- a comprehension that stores by itself -/
def swB (sc s : Scope) (y : Str) (py p : Pos) : Bool := (match sc.names.lookup y with
  | some .local => true
  | _ => false) && (py.line == p.line && !(s.names.any fun (n, k) => n == y && (k == .local || k == .cell)))
theorem sw_of {sc s : Scope} {y : Str} {py : Pos} {l : Nat} {e : Expr} {env : PySem.Env} (hk : env.scope.kind = .function) (hs : env.scope = sc) (he : compOf e = some s) : swapsWith e (some (.Name y py)) l env = pure (swB sc s y py e.pos) := by
  subst hs
  have hb : env.blockKind = .function := by unfold Env.blockKind; rw [hk]; rfl
  have key : (env.blockKind == .function && env.kindOf y == some .local && py.line == e.pos.line && !(s.names.any fun (n, k) => n == y && (k == .local || k == .cell))) = swB env.scope s y py e.pos := by
    unfold swB Env.kindOf
    rw [hb]
    cases h : env.scope.names.lookup y with
    | none => rfl
    | some q => cases q <;> simp
  cases e <;> first | (cases he; rw [← key]; rfl) | cases he
/-- where statements stand -/
structure Sx (X : Cx) (sc : Scope) : Prop where
  own : Own X sc
  po : PassesOwn (model X.prog X.w) X.A X.env X.xe
  kind : sc.kind = .function
  trx : X.stack = X.env :: X.outer ∧ X.fs = frs X.outer ∧ X.ex = [] ∧ X.env.frame = some X.env.locals
section
variable {X : Cx} {c : Cfg} {sc : Scope} {cl : Cl} {k : Nat} {W : WX} {pos : Pos}
def asgB (c : Cfg) (sc : Scope) (i : Nat) (e : E) (tg ast : Expr) : Bool := match vName tg with
  | some x => (decide (c.N[i]? = some x) && lcB sc x) && (chkE c sc e ast && (match compOf ast with
    | some _ => e.fresh
    | none => true))
  | none => false
theorem comp_cases {e : E} {ast : Expr} {s : Scope} (h : chkE c sc e ast = true) (hf : e.fresh = true) (hs : compOf ast = some s) : (∃ sr g e', e = .lc sr g e') ∨ (∃ sr g t e', e = .lcIf sr g t e') ∨ (∃ sr g a b, e = .dc sr g a b) ∨ (∃ sr g t a b, e = .dcIf sr g t a b) := by
  cases e with
  | lc sr g e' => exact .inl ⟨_, _, _, rfl⟩
  | lcIf sr g t e' => exact .inr (.inl ⟨_, _, _, _, rfl⟩)
  | dc sr g a b => exact .inr (.inr (.inl ⟨_, _, _, _, rfl⟩))
  | dcIf sr g t a b => exact .inr (.inr (.inr ⟨_, _, _, _, _, rfl⟩))
  | lst es =>
    simp only [chkE] at h
    split at h
    · rename_i xs hx
      obtain ⟨p, rfl⟩ := vLst_ok hx
      cases hs
    · cases h
  | dct0 =>
    simp only [chkE] at h
    split at h
    · rename_i hx
      obtain ⟨p, rfl⟩ := vDict_ok hx
      cases hs
    · cases h
  | dct1 a b =>
    simp only [chkE] at h
    split at h
    · rename_i x y hx
      obtain ⟨p, rfl⟩ := vDict_ok hx
      cases hs
    · cases h
  | bi f es =>
    simp only [chkE] at h
    split at h
    · rename_i x xs hx
      obtain ⟨p, q, rfl⟩ := vCall_ok hx
      cases hs
    · cases h
  | cat a b =>
    simp only [chkE] at h
    split at h
    · rename_i x op y hx
      obtain ⟨p, rfl⟩ := vBin_ok hx
      cases hs
    · cases h
  | sset a =>
    simp only [chkE] at h
    split at h
    · rename_i x hx
      obtain ⟨p, q, p2, p3, rfl⟩ := vSset_ok hx
      cases hs
    · cases h
  | sortk a =>
    simp only [chkE] at h
    split at h
    · rename_i x hx
      obtain ⟨p, q, p2, p3, rfl⟩ := vSortK_ok hx
      cases hs
    · cases h
  | _ => cases hf
theorem notComp_of {ast : Expr} (h : compOf ast = none) : notComp ast = true := by
  cases ast <;> first | rfl | cases h
theorem ps_asgC {i : Nat} {e : E} {tg ast : Expr} (g : Gd X c sc cl k W) (F : Fc X.prog X.w X.K X.mg X.base c cl k) (S : Sx X sc) (h : asgB c sc i e tg ast = true) :
    PS X (.Assign [tg] ast pos) (tC X.K c W (ex cl c.tb (.asg i e))) := by
  unfold asgB at h
  cases hv : vName tg with
  | none =>
    rw [hv] at h
    cases h
  | some x =>
    rw [hv] at h
    simp only [Bool.and_eq_true, decide_eq_true_eq] at h
    obtain ⟨⟨h1, h2⟩, h3, h4⟩ := h
    obtain ⟨py, rfl⟩ := vName_ok hv
    have hN : X.N.Nodup := by rw [g.n]; exact g.nd
    have hi : X.N[i]? = some x := by rw [g.n]; exact h1
    have hk : X.env.scope.kind = .function := by rw [g.sc]; exact S.kind
    have hloc : Loc X.env.scope x ∧ (X.fn x = true ∨ X.env.scope.names.lookup x = some .local) := by
      unfold lcB at h2
      split at h2
      · rename_i e
        exact ⟨.inl (S.own.lo x e), .inr (S.own.lo x e)⟩
      · rename_i e
        exact ⟨.inr (S.own.ce x e).1, .inl (S.own.ce x e).2⟩
      · cases h2
    have plain : swapsWith ast (some (.Name x py)) pos.line X.env = pure false → PS X (.Assign [.Name x py] ast pos) (tC X.K c W (ex cl c.tb (.asg i e))) := fun hs =>
      PS.imp (ps_set hN hi hloc.1 (okV e g F h3) hs hloc.2) fun T σ H q => tV_asg q
    cases hc : compOf ast with
    | none => exact plain (swaps_of (notComp_of hc))
    | some s =>
      rw [hc] at h4
      have hsw := sw_of (y := x) (py := py) (l := pos.line) hk g.sc hc
      cases hb : swB sc s x py ast.pos with
      | false =>
        rw [hb] at hsw
        exact plain hsw
      | true =>
        rw [hb] at hsw
        have hyl : X.env.scope.names.lookup x = some .local := by
          unfold swB at hb
          rw [g.sc]
          have := (Bool.and_eq_true_iff.mp hb).1
          split at this
          · assumption
          · cases this
        rcases comp_cases h3 h4 hc with ⟨sr, g', e', rfl⟩ | ⟨sr, g', t, e', rfl⟩ | ⟨sr, g', a, b, rfl⟩ | ⟨sr, g', t, a, b, rfl⟩
        · simp only [chkE] at h3
          split at h3
          · rename_i elt tg2 it scope hx
            obtain ⟨p, rfl⟩ := vLc_ok hx
            simp only [Bool.and_eq_true] at h3
            obtain ⟨⟨⟨h5, h6⟩, h7⟩, h8, h9⟩ := h3
            have ok' := Bool.and_eq_true_iff.mp h6
            have hbk : BlkOk X.N X.env.scope scope (ownOf c.N g') := by
              rw [g.n, g.sc]
              exact blkOk_by ok'.1
            refine PS.imp (ps_setLc (g := gTg X.K g') (te := tE X.K c WF (ev cl c.tb e')) g.calm hN hi hyl hsw (okS c cl k sr X sc W tg2 it g F h8) hbk (fun s H C cv fp => pg_tg (X := X.blk s H scope (compEnvC scope cv C X.env) fp) (N := c.N) g.calm hN g.n (own_blk s H C cv fp) h5) (fun _ _ _ _ _ => pts_nil) (fun s H C cv fp => (okE c cl k e' _ _ _ elt (g.blk s H C cv fp) F h9).1) (folded_of h7)) fun T σ H q => ?_
            rw [of_decide_eq_true ok'.2]
            have q2 := tV_asg q
            rw [tV_t rfl] at q2
            exact lc_imp g q2
          · cases h3
        · simp only [chkE] at h3
          split at h3
          · rename_i elt tg2 it ct scope hx
            obtain ⟨p, rfl⟩ := vLc_ok hx
            simp only [Bool.and_eq_true] at h3
            obtain ⟨⟨⟨h5, h6⟩, h7, h10⟩, h8, h11, h9⟩ := h3
            have ok' := Bool.and_eq_true_iff.mp h6
            have hbk : BlkOk X.N X.env.scope scope (ownOf c.N g') := by
              rw [g.n, g.sc]
              exact blkOk_by ok'.1
            refine PS.imp (ps_setLc (g := gTg X.K g') (te := tE X.K c WF (ev cl c.tb e')) (tt := tT X.K c WF fun Γ => (ev cl c.tb t Γ).bind truth) g.calm hN hi hyl hsw (okS c cl k sr X sc W tg2 it g F h8) hbk (fun s H C cv fp => pg_tg (X := X.blk s H scope (compEnvC scope cv C X.env) fp) (N := c.N) g.calm hN g.n (own_blk s H C cv fp) h5) (fun s H C cv fp => pts_one ((okE c cl k t _ _ _ ct (g.blk s H C cv fp) F h11).2.1 h10)) (fun s H C cv fp => (okE c cl k e' _ _ _ elt (g.blk s H C cv fp) F h9).1) (folded_of h7)) fun T σ H q => ?_
            rw [of_decide_eq_true ok'.2]
            have q2 := tV_asg q
            rw [tV_t rfl] at q2
            exact lcIf_imp g q2
          · cases h3
        · simp only [chkE] at h3
          split at h3
          · rename_i kx vx tg2 it scope hx
            obtain ⟨p, rfl⟩ := vDc_ok hx
            simp only [Bool.and_eq_true] at h3
            obtain ⟨⟨⟨h5, h6⟩, h7⟩, h8, h9, h10⟩ := h3
            have ok' := Bool.and_eq_true_iff.mp h6
            have hbk : BlkOk X.N X.env.scope scope (ownOf c.N g') := by
              rw [g.n, g.sc]
              exact blkOk_by ok'.1
            refine PS.imp (ps_setDc (g := gTg X.K g') (tk := tE X.K c WF (ev cl c.tb a)) (tv := tE X.K c WF (ev cl c.tb b)) g.calm hN hi hyl hsw (okS c cl k sr X sc W tg2 it g F h8) hbk (fun s H C cv fp => pg_tg (X := X.blk s H scope (compEnvC scope cv C X.env) fp) (N := c.N) g.calm hN g.n (own_blk s H C cv fp) h5) (fun _ _ _ _ _ => pts_nil) (fun s H C cv fp => (okE c cl k a _ _ _ kx (g.blk s H C cv fp) F h9).1) (fun s H C cv fp => (okE c cl k b _ _ _ vx (g.blk s H C cv fp) F h10).1) (folded_of h7)) fun T σ H q => ?_
            rw [of_decide_eq_true ok'.2]
            have q2 := tV_asg q
            rw [tV_t rfl] at q2
            exact dc_imp g q2
          · cases h3
        · simp only [chkE] at h3
          split at h3
          · rename_i kx vx tg2 it ct scope hx
            obtain ⟨p, rfl⟩ := vDc_ok hx
            simp only [Bool.and_eq_true] at h3
            obtain ⟨⟨⟨h5, h6⟩, h7, h7'⟩, h8, h89, h9, h10⟩ := h3
            have ok' := Bool.and_eq_true_iff.mp h6
            have hbk : BlkOk X.N X.env.scope scope (ownOf c.N g') := by
              rw [g.n, g.sc]
              exact blkOk_by ok'.1
            refine PS.imp (ps_setDc (g := gTg X.K g') (tk := tE X.K c WF (ev cl c.tb a)) (tv := tE X.K c WF (ev cl c.tb b)) (tt := tT X.K c WF fun Γ => (ev cl c.tb t Γ).bind truth) g.calm hN hi hyl hsw (okS c cl k sr X sc W tg2 it g F h8) hbk (fun s H C cv fp => pg_tg (X := X.blk s H scope (compEnvC scope cv C X.env) fp) (N := c.N) g.calm hN g.n (own_blk s H C cv fp) h5) (fun s H C cv fp => pts_one ((okE c cl k t _ _ _ ct (g.blk s H C cv fp) F h89).2.1 h7')) (fun s H C cv fp => (okE c cl k a _ _ _ kx (g.blk s H C cv fp) F h9).1) (fun s H C cv fp => (okE c cl k b _ _ _ vx (g.blk s H C cv fp) F h10).1) (folded_of h7)) fun T σ H q => ?_
            rw [of_decide_eq_true ok'.2]
            have q2 := tV_asg q
            rw [tV_t rfl] at q2
            exact dcIf_imp g q2
          · cases h3
end
end Mi
end
section
set_option linter.all false
set_option maxRecDepth 100000
set_option Elab.async false
set_option maxHeartbeats 2000000
/-! Statements: several names, items, appends, raise. -/
namespace Mi
open PySem PySem.Spec PyProof.Rows L2
/-! ### several values, the last may be new -/
def tEsL (K : PySem.W.Frag) (c : Cfg) (W : WX) (fs : Ga → Tr (List D)) (fe : Ga → Tr D) (fr : Bool) : TA := fun σ H Q => ∃ Γ pa B b, Okk pa B b H σ Γ ∧ ((fs Γ).bind fun ds => (fe Γ).bind fun d => Tr.ok (ds, d)).wp b
  (fun b p => ∀ vs v H1 H2 b1, Ex pa H H1 → Hk pa b1 H1 → Ex pa H1 H2 → Hk pa b H2 → RepL pa B H1 vs p.1 → Rep pa B H2 v p.2 → (fr = true → ∃ a, v = .ref a ∧ Nw H1 a ∧ NF H2 a) → Q (vs ++ [v]) H2) (Er K c W pa σ H)
section
variable {X : Cx} {c : Cfg} {sc : Scope} {cl : Cl} {k : Nat} {W : WX} {pos : Pos} {a : Expr} {fa fe : Ga → Tr D} {fs : Ga → Tr (List D)} {rest : List Expr} {fr : Bool}
theorem pa_lastL {e : E} {ast : Expr} (h : PE X ast (tV X.K c W cl e)) (hn : notStar ast = true) : PA X [ast] (tEsL X.K c W (fun _ => .ok []) (ev cl c.tb e) e.fresh) := by
  refine PA.imp (pa_cons h pa_nil (starEach_of hn)) fun σ H Q ⟨Γ, pa, B, b, o, h⟩ => ?_
  have h1 := (Tr.wp_bind _ _).mp (show ((ev cl c.tb e Γ).bind fun d => Tr.ok (([] : List D), d)).wp b _ _ from h)
  show tV X.K c W cl e σ H fun v H1 => Q [v] H1
  cases hf : e.fresh with
  | true =>
    rw [tV_t hf]
    exact ⟨Γ, pa, B, b, o, Tr.wp_mono (fun b1 d h2 v H1 x kk rv f => h2 [] v H H1 b Ex.refl o.rm.hk x kk .nil rv fun _ => f) (fun _ _ z => z) _ _ h1⟩
  | false =>
    rw [tV_f hf]
    exact ⟨Γ, pa, B, b, o, Tr.wp_mono (fun b1 d h2 v H1 x kk rv => h2 [] v H H1 b Ex.refl o.rm.hk x kk .nil rv fun z => by rw [hf] at z; cases z) (fun _ _ z => z) _ _ h1⟩
theorem pa_consL (h : PE X a (tE X.K c W fa)) (hs : PA X rest (tEsL X.K c W fs fe fr)) (hn : notStar a = true) : PA X (a :: rest) (tEsL X.K c W (fun Γ => (fa Γ).bind fun x => (fs Γ).bind fun xs => .ok (x :: xs)) fe fr) := by
  refine PA.imp (pa_cons h hs (starEach_of hn)) fun σ H Q ⟨Γ, pa, B, b, o, h⟩ => ?_
  have h1 := (Tr.wp_bind _ _).mp ((Tr.wp_bind _ _).mp h)
  refine ⟨Γ, pa, B, b, o, Tr.wp_mono (fun b1 d h2 v H1 x kk rv => ?_) (fun _ _ z => z) _ _ h1⟩
  refine ⟨Γ, pa, B, b1, o.ex x kk, ?_⟩
  have h3 := (Tr.wp_bind _ _).mp h2
  refine (Tr.wp_bind _ _).mpr (Tr.wp_mono (fun b2 ds h4 => ?_) (fun _ _ z => Er.ex z x) _ _ h3)
  have h5 := (Tr.wp_bind _ _).mp h4
  refine (Tr.wp_bind _ _).mpr (Tr.wp_mono (fun b3 dl h6 vs vl H2 H3 bb x2 k2 x3 k3 r2 r3 f => ?_) (fun _ _ z => Er.ex z x) _ _ h5)
  exact h6 (v :: vs) vl H2 H3 bb (x.trans x2) k2 x3 k3 (.cons (rv.ex x2 (o.ex x kk).rm) r2) r3 f
def chkL (c : Cfg) (sc : Scope) : Es → E → List Expr → Bool
  | .nil, e, [y] => chkE c sc e y && notStar y
  | .cons a es, e, x :: xs => (chkE c sc a x && notStar x) && chkL c sc es e xs
  | _, _, _ => false
theorem okL (g : Gd X c sc cl k W) (F : Fc X.prog X.w X.K X.mg X.base c cl k) (e : E) : ∀ {es : Es} {asts : List Expr}, chkL c sc es e asts = true →
    PA X asts (tEsL X.K c W (evs cl c.tb es) (ev cl c.tb e) e.fresh) ∧ asts.all notStar = true ∧ asts.length = es.toL.length + 1
  | .nil, [], h => by cases h
  | .nil, [y], h => by
    simp only [chkL, Bool.and_eq_true] at h
    exact ⟨pa_lastL (okV e g F h.1) h.2, by simp [h.2], rfl⟩
  | .nil, _ :: _ :: _, h => by cases h
  | .cons a es, [], h => by cases h
  | .cons a es, x :: xs, h => by
    simp only [chkL, Bool.and_eq_true] at h
    obtain ⟨h1, h2, h3⟩ := okL g F e h.2
    exact ⟨pa_consL (okE c cl k a X sc W x g F h.1.1).1 h1 h.1.2, by rw [List.all_cons, h.1.2, h2]; rfl, congrArg Nat.succ h3⟩
theorem setAll_last : ∀ {is : List Nat} {vs : List V} {σ : L2.St} {j : Nat} {v : V}, vs.length = is.length → setAll σ (is ++ [j]) (vs ++ [v]) = (setAll σ is vs).set j (some v)
  | [], [], σ, j, v, _ => rfl
  | i :: is, w :: vs, σ, j, v, h => setAll_last (is := is) (σ := σ.set i (some w)) (Nat.succ.inj h)
  | [], _ :: _, _, _, _, h => by cases h
  | _ :: _, [], _, _, _, h => by cases h
theorem tPar_of {K : PySem.W.Frag} {is : List Nat} {es : Es} {j : Nat} {e : E} {T : Ends} {σ : L2.St} {H : Hp} (hz : is.length ≤ 1000) (h : tC K c W (ex cl c.tb (.par is es j e)) T σ H) :
    tEsL K c W (evs cl c.tb es) (ev cl c.tb e) e.fresh σ H fun vs H2 => vs.length = is.length + 1 ∧ vs.length ≤ sizeLine ∧ T.nx (setAll σ (is ++ [j]) vs) H2 ∧ ∀ p, H2 p = none → T.nx (setAll σ (is ++ [j]) vs) (upd H2 p (.tup vs)) := by
  obtain ⟨g, Z, pa, B0, H0, b, r, h⟩ := h
  have h1 := (Tr.wp_bind _ _).mp h
  refine ⟨vis (es.ment ++ e.ment) g, pa, Bm B0 (es.ment ++ e.ment) g σ, b, r.okk, (Tr.wp_bind _ _).mpr (Tr.wp_mono (fun b1 ds h2 => ?_) (fun _ _ z => ErC.er r z) _ _ h1)⟩
  refine (Tr.wp_bind _ _).mpr (Tr.wp_mono (fun b2 d h3 vs v H1 H2 bb x1 k1 x2 k2 r1 r2 fr => ?_) (fun _ _ z => ErC.er r z) _ _ ((Tr.wp_bind _ _).mp h2))
  by_cases hl : ds.length = is.length
  · rw [if_pos hl] at h3
    have h4 : ∀ σ' H', RelS Z pa B0 H0 b2 H' σ' _ → T.nx σ' H' := h3
    have hv : vs.length = is.length := by rw [r1.length, hl]
    have res : RelS Z pa B0 H0 b2 H2 (setAll σ (is ++ [j]) (vs ++ [v])) ((setsS (clr (immAll ds && (ownB e d || imm d)) (es.ment ++ e.ment) g) is ds).set j (some (d, ownB e d))) := by
      rw [setAll_last hv]
      have q1 := ((r.step x1 k1).clrB (immAll ds && (ownB e d || imm d)) (es.ment ++ e.ment))
      obtain ⟨q2, le⟩ := q1.sets (is := is) (reps_clr r1 fun z => (Bool.and_eq_true_iff.mp z).1) hl
      cases ho : ownB e d with
      | true =>
        have hf : e.fresh = true := by
          unfold ownB at ho
          exact (Bool.and_eq_true_iff.mp ho).1
        obtain ⟨a, ea, ha, nf⟩ := fr hf
        obtain ⟨a', ea', oo⟩ := ownB_own ho r2 ⟨a, ea, nf⟩
        rw [ea] at ea'
        cases ea'
        subst ea
        rw [ho] at q2
        exact q2.setf x2 k2 ha oo
      | false =>
        rw [ho] at q2 le
        refine (q2.step x2 k2).setv ?_
        refine (rep_clr r2 fun z => ?_).keeps (Keeps.less le)
        have := (Bool.and_eq_true_iff.mp z).2
        simpa using this
    have hlen : (vs ++ [v]).length = is.length + 1 := by rw [List.length_append, hv]; rfl
    refine ⟨hlen, ?_, h4 _ _ res, fun p hp => h4 _ _ (res.step (Ex.new hp) (k2.new hp))⟩
    rw [hlen, line_eq]
    exact Nat.le_trans (Nat.succ_le_succ hz) (by decide)
  · rw [if_neg hl] at h3
    exact h3.elim
/-! ### several values, each may be new -/
inductive FrL {τ : Tbs} (pa : Pa τ) (B : Addr → Prop) : Hp → Es → List V → List D → Hp → Prop where
  | nil {H : Hp} : FrL pa B H .nil [] [] H
  | cons {H H1 H2 : Hp} {e : E} {es : Es} {v : V} {d : D} {vs : List V} {ds : List D} {b1 : Nat} : Ex pa H H1 → Hk pa b1 H1 → Rep pa B H1 v d → (e.fresh = true → ∃ a, v = .ref a ∧ Nw H a ∧ NF H1 a) → FrL pa B H1 es vs ds H2 → FrL pa B H (.cons e es) (v :: vs) (d :: ds) H2
def tEsG (K : PySem.W.Frag) (c : Cfg) (W : WX) (cl : Cl) (es : Es) (fe : Ga → Tr D) (fr : Bool) : TA := fun σ H Q => ∃ Γ pa B b, Okk pa B b H σ Γ ∧ ((evs cl c.tb es Γ).bind fun ds => (fe Γ).bind fun d => Tr.ok (ds, d)).wp b
  (fun b p => ∀ vs v H1 H2 b1, FrL pa B H es vs p.1 H1 → Hk pa b1 H1 → Ex pa H1 H2 → Hk pa b H2 → Rep pa B H2 v p.2 → (fr = true → ∃ a, v = .ref a ∧ Nw H1 a ∧ NF H2 a) → Q (vs ++ [v]) H2) (Er K c W pa σ H)
theorem pa_lastG {e : E} {ast : Expr} (h : PE X ast (tV X.K c W cl e)) (hn : notStar ast = true) : PA X [ast] (tEsG X.K c W cl .nil (ev cl c.tb e) e.fresh) := by
  refine PA.imp (pa_cons h pa_nil (starEach_of hn)) fun σ H Q ⟨Γ, pa, B, b, o, h⟩ => ?_
  have h1 := (Tr.wp_bind _ _).mp (show ((ev cl c.tb e Γ).bind fun d => Tr.ok (([] : List D), d)).wp b _ _ from h)
  show tV X.K c W cl e σ H fun v H1 => Q [v] H1
  cases hf : e.fresh with
  | true =>
    rw [tV_t hf]
    exact ⟨Γ, pa, B, b, o, Tr.wp_mono (fun b1 d h2 v H1 x kk rv f => h2 [] v H H1 b .nil o.rm.hk x kk rv fun _ => f) (fun _ _ z => z) _ _ h1⟩
  | false =>
    rw [tV_f hf]
    exact ⟨Γ, pa, B, b, o, Tr.wp_mono (fun b1 d h2 v H1 x kk rv => h2 [] v H H1 b .nil o.rm.hk x kk rv fun z => by rw [hf] at z; cases z) (fun _ _ z => z) _ _ h1⟩
theorem pa_consG {e0 : E} {es : Es} (h : PE X a (tV X.K c W cl e0)) (hs : PA X rest (tEsG X.K c W cl es fe fr)) (hn : notStar a = true) : PA X (a :: rest) (tEsG X.K c W cl (.cons e0 es) fe fr) := by
  refine PA.imp (pa_cons h hs (starEach_of hn)) fun σ H Q ⟨Γ, pa, B, b, o, h⟩ => ?_
  have h1 := (Tr.wp_bind _ _).mp ((Tr.wp_bind _ _).mp (show (((ev cl c.tb e0 Γ).bind fun x => (evs cl c.tb es Γ).bind fun xs => Tr.ok (x :: xs)).bind _).wp b _ _ from h))
  have go : ∀ b1 d v H1, Ex pa H H1 → Hk pa b1 H1 → Rep pa B H1 v d → (e0.fresh = true → ∃ a, v = .ref a ∧ Nw H a ∧ NF H1 a) → Tr.wp ((evs cl c.tb es Γ).bind fun xs => Tr.ok (d :: xs)) b1 (fun b' a => Tr.wp ((fe Γ).bind fun d => Tr.ok (a, d)) b' (fun b p => ∀ vs v H1 H2 b1, FrL pa B H (.cons e0 es) vs p.1 H1 → Hk pa b1 H1 → Ex pa H1 H2 → Hk pa b H2 → Rep pa B H2 v p.2 → (fr = true → ∃ a, v = .ref a ∧ Nw H1 a ∧ NF H2 a) → Q (vs ++ [v]) H2) (Er X.K c W pa σ H)) (Er X.K c W pa σ H) → tEsG X.K c W cl es fe fr σ H1 fun vs H2 => Q (v :: vs) H2 := by
    intro b1 d v H1 x kk rv hf h2
    refine ⟨Γ, pa, B, b1, o.ex x kk, ?_⟩
    have h3 := (Tr.wp_bind _ _).mp h2
    refine (Tr.wp_bind _ _).mpr (Tr.wp_mono (fun b2 ds h4 => ?_) (fun _ _ z => Er.ex z x) _ _ h3)
    have h5 := (Tr.wp_bind _ _).mp h4
    refine (Tr.wp_bind _ _).mpr (Tr.wp_mono (fun b3 dl h6 vs vl H2 H3 bb f2 k2 x3 k3 r3 f => ?_) (fun _ _ z => Er.ex z x) _ _ h5)
    exact h6 (v :: vs) vl H2 H3 bb (.cons x kk rv hf f2) k2 x3 k3 r3 f
  show tV X.K c W cl e0 σ H fun v H1 => tEsG X.K c W cl es fe fr σ H1 fun vs H2 => Q (v :: vs) H2
  cases hf : e0.fresh with
  | true =>
    rw [tV_t hf]
    exact ⟨Γ, pa, B, b, o, Tr.wp_mono (fun b1 d h2 v H1 x kk rv f => go b1 d v H1 x kk rv (fun _ => f) h2) (fun _ _ z => z) _ _ h1⟩
  | false =>
    rw [tV_f hf]
    exact ⟨Γ, pa, B, b, o, Tr.wp_mono (fun b1 d h2 v H1 x kk rv => go b1 d v H1 x kk rv (fun z => by rw [hf] at z; cases z) h2) (fun _ _ z => z) _ _ h1⟩
theorem okG (g : Gd X c sc cl k W) (F : Fc X.prog X.w X.K X.mg X.base c cl k) (e : E) : ∀ {es : Es} {asts : List Expr}, chkL c sc es e asts = true →
    PA X asts (tEsG X.K c W cl es (ev cl c.tb e) e.fresh) ∧ asts.all notStar = true ∧ asts.length = es.toL.length + 1
  | .nil, [], h => by cases h
  | .nil, [y], h => by
    simp only [chkL, Bool.and_eq_true] at h
    exact ⟨pa_lastG (okV e g F h.1) h.2, by simp [h.2], rfl⟩
  | .nil, _ :: _ :: _, h => by cases h
  | .cons a es, [], h => by cases h
  | .cons a es, x :: xs, h => by
    simp only [chkL, Bool.and_eq_true] at h
    obtain ⟨h1, h2, h3⟩ := okG g F e h.2
    exact ⟨pa_consG (okV a g F h.1.1) h1 h.1.2, by rw [List.all_cons, h.1.2, h2]; rfl, congrArg Nat.succ h3⟩
/-- one value more, new or plain -/
theorem RelS.setn {Z : (Addr → Prop) → Hp → Prop} {K0 : PySem.W.Frag} {c0 : Cfg} {pa : Pa (c0.T K0)} {B0 B : Addr → Prop} {H0 H H1 : Hp} {b b1 : Nat} {σ : L2.St} {g : Gs} {i : Nat} {e : E} {v : V} {d : D} (r : RelS Z pa B0 H0 b H σ g) (x : Ex pa H H1) (kk : Hk pa b1 H1) (rv : Rep pa B H1 v d) (fr : e.fresh = true → ∃ a, v = .ref a ∧ Nw H a ∧ NF H1 a) (ho : (ownB e d || imm d) = true) :
    RelS Z pa B0 H0 b1 H1 (σ.set i (some v)) (g.set i (some (d, ownB e d))) := by
  cases hw : ownB e d with
  | true =>
    have hf : e.fresh = true := by
      unfold ownB at hw
      exact (Bool.and_eq_true_iff.mp hw).1
    obtain ⟨a, ea, ha, nf⟩ := fr hf
    obtain ⟨a', ea', oo⟩ := ownB_own hw rv ⟨a, ea, nf⟩
    rw [ea] at ea'
    cases ea'
    subst ea
    exact r.setf x kk ha oo
  | false =>
    rw [hw] at ho
    exact (r.step x kk).setv (rv.imm ho)
theorem FrL.len {K0 : PySem.W.Frag} {c0 : Cfg} {pa : Pa (c0.T K0)} {B : Addr → Prop} {H H2 : Hp} {es : Es} {vs : List V} {ds : List D} (f : FrL pa B H es vs ds H2) : vs.length = ds.length := by
  induction f with
  | nil => rfl
  | cons _ _ _ _ _ ih => exact congrArg Nat.succ ih
theorem RelS.setsN {Z : (Addr → Prop) → Hp → Prop} {K0 : PySem.W.Frag} {c0 : Cfg} {pa : Pa (c0.T K0)} {B0 B : Addr → Prop} {H0 H H2 : Hp} {es : Es} {vs : List V} {ds : List D} (f : FrL pa B H es vs ds H2) : ∀ {b : Nat} {σ : L2.St} {g : Gs} {is : List Nat}, RelS Z pa B0 H0 b H σ g → okAll es ds = true → ds.length = is.length → ∃ b', RelS Z pa B0 H0 b' H2 (setAll σ is vs) (setsF g is es ds) := by
  induction f with
  | nil =>
    intro b σ g is r _ hl
    cases is with
    | nil => exact ⟨b, r⟩
    | cons _ _ => cases hl
  | cons x kk rv fr _ ih =>
    intro b σ g is r ho hl
    cases is with
    | nil => cases hl
    | cons i is =>
      have ho' := Bool.and_eq_true_iff.mp ho
      exact ih (r.setn (i := i) x kk rv fr ho'.1) ho'.2 (Nat.succ.inj hl)
theorem tParF_of {is : List Nat} {es : Es} {j : Nat} {e : E} {T : Ends} {σ : L2.St} {H : Hp} (hz : is.length ≤ 1000) (h : tC X.K c W (ex cl c.tb (.parF is es j e)) T σ H) :
    tEsG X.K c W cl es (ev cl c.tb e) e.fresh σ H fun vs H2 => vs.length = is.length + 1 ∧ vs.length ≤ sizeLine ∧ T.nx (setAll σ (is ++ [j]) vs) H2 ∧ ∀ p, H2 p = none → T.nx (setAll σ (is ++ [j]) vs) (upd H2 p (.tup vs)) := by
  obtain ⟨g, Z, pa, B0, H0, b, r, h⟩ := h
  have h1 := (Tr.wp_bind _ _).mp h
  refine ⟨vis (es.ment ++ e.ment) g, pa, Bm B0 (es.ment ++ e.ment) g σ, b, r.okk, (Tr.wp_bind _ _).mpr (Tr.wp_mono (fun b1 ds h2 => ?_) (fun _ _ z => ErC.er r z) _ _ h1)⟩
  refine (Tr.wp_bind _ _).mpr (Tr.wp_mono (fun b2 d h3 vs v H1 H2 bb f1 k1 x2 k2 r2 fr => ?_) (fun _ _ z => ErC.er r z) _ _ ((Tr.wp_bind _ _).mp h2))
  by_cases hl : ds.length = is.length ∧ (okAll es ds && (ownB e d || imm d)) = true
  · rw [if_pos hl] at h3
    obtain ⟨hl, ho⟩ := hl
    have ho' := Bool.and_eq_true_iff.mp ho
    have h4 : ∀ σ' H', RelS Z pa B0 H0 b2 H' σ' _ → T.nx σ' H' := h3
    have hv : vs.length = is.length := by rw [f1.len, hl]
    have res : RelS Z pa B0 H0 b2 H2 (setAll σ (is ++ [j]) (vs ++ [v])) ((setsF g is es ds).set j (some (d, ownB e d))) := by
      rw [setAll_last hv]
      obtain ⟨b', q⟩ := RelS.setsN f1 r ho'.1 hl
      exact q.setn x2 k2 r2 fr ho'.2
    have hlen : (vs ++ [v]).length = is.length + 1 := by rw [List.length_append, hv]; rfl
    refine ⟨hlen, ?_, h4 _ _ res, fun p hp => h4 _ _ (res.step (Ex.new hp) (k2.new hp))⟩
    rw [hlen, line_eq]
    exact Nat.le_trans (Nat.succ_le_succ hz) (by decide)
  · rw [if_neg hl] at h3
    exact h3.elim
end
/-! ### which stores are swapped -/
def isStar : Expr → Bool
  | .Starred .. => true
  | _ => false
def nmL (sc : Scope) (ts : List Expr) : List Str := ts.filterMap fun
  | .Name id pos => if sc.names.lookup id == some .local && pos.line == (ts.head?.map (·.pos.line)).getD 0 then some id else none
  | _ => none
def swp (sc : Scope) (ts vs : List Expr) : Option (Option (List Str)) :=
  if (!(ts.length == 2 || ts.length == 3) || vs.length != ts.length) = true then some none
  else if vs.any isStar = true then some none
  else if ((nmL sc ts).length != ts.length || (nmL sc ts).eraseDups.length != (nmL sc ts).length) = true then some none
  else if vs.all (foldedForSure 8) = true then some none
  else if vs.all (constantsAlone 8) = true then none
  else some (some (nmL sc ts))
theorem swp_ok {env : PySem.Env} {sc : Scope} {ts vs : List Expr} {k1 k2 : Nat} {p1 p2 : Pos} {r : Option (List Str)} (hk : env.scope.kind = .function) (hs : env.scope = sc) (h : swp sc ts vs = some r) :
    swappedStores [.Tuple ts k1 p1] (.Tuple vs k2 p2) env = pure r := by
  subst hs
  have hb : env.blockKind = .function := by unfold Env.blockKind; rw [hk]; rfl
  unfold swp at h
  unfold swappedStores
  simp only [hb, bne_self_eq_false, Bool.or_false]
  by_cases h1 : (!(ts.length == 2 || ts.length == 3) || vs.length != ts.length) = true
  · rw [if_pos h1] at h
    cases h
    simp only [h1, if_true]
  · rw [if_neg h1] at h
    simp only [h1]
    rw [if_neg Bool.false_ne_true]
    show (if vs.any isStar = true then pure none else if ((nmL env.scope ts).length != ts.length || (nmL env.scope ts).eraseDups.length != (nmL env.scope ts).length) = true then pure none else if vs.all (foldedForSure 8) = true then pure none else
      if vs.all (constantsAlone 8) = true then (do unsupported "assign.tuple-of-constant-expressions:order-of-the-stores"; pure (some (nmL env.scope ts))) else pure (some (nmL env.scope ts))) = pure r
    by_cases h2 : vs.any isStar = true
    · rw [if_pos h2] at h ⊢
      cases h
      rfl
    · rw [if_neg h2] at h ⊢
      by_cases h3 : ((nmL env.scope ts).length != ts.length || (nmL env.scope ts).eraseDups.length != (nmL env.scope ts).length) = true
      · rw [if_pos h3] at h ⊢
        cases h
        rfl
      · rw [if_neg h3] at h ⊢
        by_cases h4 : vs.all (foldedForSure 8) = true
        · rw [if_pos h4] at h ⊢
          cases h
          rfl
        · rw [if_neg h4] at h ⊢
          by_cases h5 : vs.all (constantsAlone 8) = true
          · rw [if_pos h5] at h
            cases h
          · rw [if_neg h5] at h ⊢
            cases h
            rfl
/-! ### a, b = x, y -/
section
variable {X : Cx} {c : Cfg} {sc : Scope} {cl : Cl} {k : Nat} {W : WX} {pos : Pos}
def locsB (sc : Scope) (xs : List Str) : Bool := xs.all fun x => locB sc x
def nmsOf (es : List Expr) : Option (List Str) := match es with
  | [] => some []
  | e :: r => match vName e, nmsOf r with
    | some x, some l => some (x :: l)
    | _, _ => none
def parB (c : Cfg) (sc : Scope) (is : List Nat) (es : Es) (j : Nat) (e : E) (tg ast : Expr) : Bool := match vTup tg, vTup ast with
  | some ts, some vs => (nmsB c.N sc (is ++ [j]) ts && (chkL c sc es e vs && decide (is.length ≤ 1000))) && (match swp sc ts vs with
    | some none => true
    | some (some l) => decide (nmsOf ts = some l) && (locsB sc l && decide ((is ++ [j]).Nodup))
    | none => false)
  | _, _ => false
theorem nms_names : ∀ {is : List Nat} {ts : List Expr} {l : List Str}, nmsB c.N sc is ts = true → nmsOf ts = some l → l.length = is.length ∧ ∀ (n : Nat) (x : Str), l[n]? = some x → ∃ i : Nat, is[n]? = some i ∧ c.N[i]? = some x
  | [], [], l, _, h => by
    cases h
    exact ⟨rfl, fun n x e => by simp at e⟩
  | i :: is, t :: ts, l, h1, h2 => by
    have h' := Bool.and_eq_true_iff.mp (show ((match vName t with | some x => decide (c.N[i]? = some x) && lcB sc x | none => false) && nmsB c.N sc is ts) = true from h1)
    simp only [nmsOf] at h2
    cases hv : vName t with
    | none =>
      rw [hv] at h'
      cases h'.1
    | some x =>
      rw [hv] at h' h2
      cases hr : nmsOf ts with
      | none =>
        rw [hr] at h2
        cases h2
      | some r =>
        rw [hr] at h2
        cases h2
        obtain ⟨e1, e2⟩ := nms_names h'.2 hr
        refine ⟨congrArg Nat.succ e1, fun n y e => ?_⟩
        cases n with
        | zero =>
          cases e
          exact ⟨i, rfl, of_decide_eq_true (Bool.and_eq_true_iff.mp h'.1).1⟩
        | succ n => exact e2 n y e
  | [], _ :: _, _, h, _ => by cases h
  | _ :: _, [], _, h, _ => by cases h
theorem nmsOf_ok : ∀ {ts : List Expr} {l : List Str}, nmsOf ts = some l → ∃ ps : List Pos, ps.length = l.length ∧ ts = (l.zip ps).map fun p => Expr.Name p.1 p.2
  | [], l, h => by
    cases h
    exact ⟨[], rfl, rfl⟩
  | t :: ts, l, h => by
    simp only [nmsOf] at h
    cases hv : vName t with
    | none =>
      rw [hv] at h
      cases h
    | some x =>
      cases hr : nmsOf ts with
      | none =>
        rw [hv, hr] at h
        cases h
      | some r =>
        rw [hv, hr] at h
        cases h
        obtain ⟨p, rfl⟩ := vName_ok hv
        obtain ⟨ps, e1, e2⟩ := nmsOf_ok hr
        exact ⟨p :: ps, congrArg Nat.succ e1, by rw [e2]; rfl⟩
theorem swp_len {ts vs : List Expr} {l : List Str} (h : swp sc ts vs = some (some l)) : (ts.length = 2 ∨ ts.length = 3) ∧ vs.length = ts.length := by
  unfold swp at h
  split at h
  · cases h
  · rename_i h1
    simp at h1
    exact ⟨by omega, h1.2⟩
theorem ps_parC {is : List Nat} {es : Es} {j : Nat} {e : E} {tg ast : Expr} (g : Gd X c sc cl k W) (F : Fc X.prog X.w X.K X.mg X.base c cl k) (S : Sx X sc) (h : parB c sc is es j e tg ast = true) :
    PS X (.Assign [tg] ast pos) (tC X.K c W (ex cl c.tb (.par is es j e))) := by
  unfold parB at h
  split at h
  · rename_i ts vs ht hv
    obtain ⟨kt, pt, rfl⟩ := vTup_ok ht
    obtain ⟨k2, pt2, rfl⟩ := vTup_ok hv
    simp only [Bool.and_eq_true, decide_eq_true_eq] at h
    obtain ⟨⟨h1, h2, h3⟩, h4⟩ := h
    have hN : X.N.Nodup := by rw [g.n]; exact g.nd
    have hk : X.env.scope.kind = .function := by rw [g.sc]; exact S.kind
    obtain ⟨pa, hst, hlen⟩ := okL g F e h2
    have h1' : nmsB X.N sc (is ++ [j]) ts = true := by rw [g.n]; exact h1
    split at h4
    · rename_i hw
      have hw' := swp_ok (k1 := kt) (p1 := pt) (k2 := k2) (p2 := pt2) hk g.sc hw
      have e1 : (assignEach ts X.env).length = (is ++ [j]).length := by rw [nms_each h1', List.length_map, nms_len h1']
      have e2 : (assignEach ts X.env).findIdx? (·.1) = none := by
        rw [nms_each h1']
        have z : ∀ l : List Expr, List.findIdx? (fun x : Bool × (Value → Sem Unit) => x.1) (l.map fun e => (false, assign e X.env)) = none := by
          intro l
          induction l with
          | nil => rfl
          | cons a l ih => simp [List.findIdx?_cons, ih]
        exact z ts
      refine PS.imp (ps_asg (pe_tup pa) (pg_tup g.calm (pgs_nms hN S.own h1') e1 e2) rfl hw') fun T σ H q => ?_
      have q2 := tPar_of (is := is) h3 q
      obtain ⟨Γ, pa', B, b, o, q3⟩ := q2
      refine ⟨Γ, pa', B, b, o, Tr.wp_mono (fun b1 p q4 vs' v H1 H2 b2 x1 k1 x2 k2 r1 r2 fr => ?_) (fun _ _ z => z) _ _ q3⟩
      obtain ⟨z1, z2, z3, z4⟩ := q4 vs' v H1 H2 b2 x1 k1 x2 k2 r1 r2 fr
      refine ⟨z2, fun p hp => ⟨p, _, rfl, SqT.of upd_same, by rw [z1, List.length_append]; rfl, ?_⟩⟩
      exact gNs_of (by rw [z1, List.length_append]; rfl) (z4 p hp)
    · rename_i l hw
      simp only [Bool.and_eq_true, decide_eq_true_eq] at h4
      obtain ⟨h5, h6, h7⟩ := h4
      have hw' := swp_ok (k1 := kt) (p1 := pt) (k2 := k2) (p2 := pt2) hk g.sc hw
      obtain ⟨hl1, hl2⟩ := swp_len hw
      obtain ⟨n1, n2⟩ := nms_names h1 h5
      obtain ⟨ps, e1, e2⟩ := nmsOf_ok h5
      have hloc : ∀ x ∈ l, X.env.scope.names.lookup x = some .local := fun x hx => by
        rw [g.sc]
        exact locB_ok (List.all_eq_true.mp h6 x hx)
      have n1' : l.length = is.length + 1 := by rw [n1, List.length_append]; rfl
      have hln : l.length = ts.length := by rw [e2, List.length_map, List.length_zip, e1, Nat.min_self]
      rcases hl1 with hl | hl
      · -- two
        match l, ps, is, vs, hln.trans hl, e1, n1', hl2.trans hl with
        | [x, y], [px, py], [i], [a, b], _, _, _, _ =>
          have t2 : ts = [.Name x px, .Name y py] := e2
          subst t2
          obtain ⟨i', z1, z2⟩ := n2 0 x rfl
          obtain ⟨j', z3, z4⟩ := n2 1 y rfl
          cases z1
          cases z3
          have hij : i ≠ j := fun z => by
            rw [z] at h7
            simp at h7
          refine PS.imp (ps_par g.calm hN (by rw [g.n]; exact z2) (by rw [g.n]; exact z4) hij (hloc x (by simp)) (hloc y (by simp)) pa hw' rfl) fun T σ H q => ?_
          have q2 := tPar_of (is := [i]) h3 q
          obtain ⟨Γ, pa', B, b, o, q3⟩ := q2
          refine ⟨Γ, pa', B, b, o, Tr.wp_mono (fun b1 p q4 vs' v H1 H2 b2 x1 k1 x2 k2 r1 r2 fr => ?_) (fun _ _ z => z) _ _ q3⟩
          obtain ⟨w1, w2, w3, w4⟩ := q4 vs' v H1 H2 b2 x1 k1 x2 k2 r1 r2 fr
          have wl : vs'.length = 1 := by
            rw [List.length_append] at w1
            exact Nat.succ.inj w1
          match vs', wl, w3 with
          | [u], _, w3 => exact ⟨u, v, rfl, w3⟩
      · match l, ps, is, vs, hln.trans hl, e1, n1', hl2.trans hl with
        | [x, y, z], [px, py, pz], [i, i2], [a, b, d], _, _, _, _ =>
          have t2 : ts = [.Name x px, .Name y py, .Name z pz] := e2
          subst t2
          obtain ⟨i', z1, z2⟩ := n2 0 x rfl
          obtain ⟨j', z3, z4⟩ := n2 1 y rfl
          obtain ⟨l', z5, z6⟩ := n2 2 z rfl
          cases z1
          cases z3
          cases z5
          have hn : i ≠ i2 ∧ i ≠ j ∧ i2 ≠ j := by
            simp at h7
            exact ⟨h7.1.1, h7.1.2, h7.2⟩
          refine PS.imp (ps_par3 g.calm hN (by rw [g.n]; exact z2) (by rw [g.n]; exact z4) (by rw [g.n]; exact z6) hn.1 hn.2.1 hn.2.2 (hloc x (by simp)) (hloc y (by simp)) (hloc z (by simp)) pa hw' rfl) fun T σ H q => ?_
          have q2 := tPar_of (is := [i, i2]) h3 q
          obtain ⟨Γ, pa', B, b, o, q3⟩ := q2
          refine ⟨Γ, pa', B, b, o, Tr.wp_mono (fun b1 p q4 vs' v H1 H2 b2 x1 k1 x2 k2 r1 r2 fr => ?_) (fun _ _ z => z) _ _ q3⟩
          obtain ⟨w1, w2, w3, w4⟩ := q4 vs' v H1 H2 b2 x1 k1 x2 k2 r1 r2 fr
          have wl : vs'.length = 2 := by
            rw [List.length_append] at w1
            exact Nat.succ.inj w1
          match vs', wl, w3 with
          | [u, u2], _, w3 => exact ⟨u, u2, v, rfl, w3⟩
    · cases h4
  · cases h
theorem ps_parFC {is : List Nat} {es : Es} {j : Nat} {e : E} {tg ast : Expr} (g : Gd X c sc cl k W) (F : Fc X.prog X.w X.K X.mg X.base c cl k) (S : Sx X sc) (h : parB c sc is es j e tg ast = true) :
    PS X (.Assign [tg] ast pos) (tC X.K c W (ex cl c.tb (.parF is es j e))) := by
  unfold parB at h
  split at h
  · rename_i ts vs ht hv
    obtain ⟨kt, pt, rfl⟩ := vTup_ok ht
    obtain ⟨k2, pt2, rfl⟩ := vTup_ok hv
    simp only [Bool.and_eq_true, decide_eq_true_eq] at h
    obtain ⟨⟨h1, h2, h3⟩, h4⟩ := h
    have hN : X.N.Nodup := by rw [g.n]; exact g.nd
    have hk : X.env.scope.kind = .function := by rw [g.sc]; exact S.kind
    obtain ⟨pa, hst, hlen⟩ := okG g F e h2
    have h1' : nmsB X.N sc (is ++ [j]) ts = true := by rw [g.n]; exact h1
    split at h4
    · rename_i hw
      have hw' := swp_ok (k1 := kt) (p1 := pt) (k2 := k2) (p2 := pt2) hk g.sc hw
      have e1 : (assignEach ts X.env).length = (is ++ [j]).length := by rw [nms_each h1', List.length_map, nms_len h1']
      have e2 : (assignEach ts X.env).findIdx? (·.1) = none := by
        rw [nms_each h1']
        have z : ∀ l : List Expr, List.findIdx? (fun x : Bool × (Value → Sem Unit) => x.1) (l.map fun e => (false, assign e X.env)) = none := by
          intro l
          induction l with
          | nil => rfl
          | cons a l ih => simp [List.findIdx?_cons, ih]
        exact z ts
      refine PS.imp (ps_asg (pe_tup pa) (pg_tup g.calm (pgs_nms hN S.own h1') e1 e2) rfl hw') fun T σ H q => ?_
      have q2 := tParF_of (is := is) h3 q
      obtain ⟨Γ, pa', B, b, o, q3⟩ := q2
      refine ⟨Γ, pa', B, b, o, Tr.wp_mono (fun b1 p q4 vs' v H1 H2 b2 f1 k1 x2 k2 r2 fr => ?_) (fun _ _ z => z) _ _ q3⟩
      obtain ⟨z1, z2, z3, z4⟩ := q4 vs' v H1 H2 b2 f1 k1 x2 k2 r2 fr
      refine ⟨z2, fun p hp => ⟨p, _, rfl, SqT.of upd_same, by rw [z1, List.length_append]; rfl, ?_⟩⟩
      exact gNs_of (by rw [z1, List.length_append]; rfl) (z4 p hp)
    · rename_i l hw
      simp only [Bool.and_eq_true, decide_eq_true_eq] at h4
      obtain ⟨h5, h6, h7⟩ := h4
      have hw' := swp_ok (k1 := kt) (p1 := pt) (k2 := k2) (p2 := pt2) hk g.sc hw
      obtain ⟨hl1, hl2⟩ := swp_len hw
      obtain ⟨n1, n2⟩ := nms_names h1 h5
      obtain ⟨ps, e1, e2⟩ := nmsOf_ok h5
      have hloc : ∀ x ∈ l, X.env.scope.names.lookup x = some .local := fun x hx => by
        rw [g.sc]
        exact locB_ok (List.all_eq_true.mp h6 x hx)
      have n1' : l.length = is.length + 1 := by rw [n1, List.length_append]; rfl
      have hln : l.length = ts.length := by rw [e2, List.length_map, List.length_zip, e1, Nat.min_self]
      rcases hl1 with hl | hl
      · -- two
        match l, ps, is, vs, hln.trans hl, e1, n1', hl2.trans hl with
        | [x, y], [px, py], [i], [a, b], _, _, _, _ =>
          have t2 : ts = [.Name x px, .Name y py] := e2
          subst t2
          obtain ⟨i', z1, z2⟩ := n2 0 x rfl
          obtain ⟨j', z3, z4⟩ := n2 1 y rfl
          cases z1
          cases z3
          have hij : i ≠ j := fun z => by
            rw [z] at h7
            simp at h7
          refine PS.imp (ps_par g.calm hN (by rw [g.n]; exact z2) (by rw [g.n]; exact z4) hij (hloc x (by simp)) (hloc y (by simp)) pa hw' rfl) fun T σ H q => ?_
          have q2 := tParF_of (is := [i]) h3 q
          obtain ⟨Γ, pa', B, b, o, q3⟩ := q2
          refine ⟨Γ, pa', B, b, o, Tr.wp_mono (fun b1 p q4 vs' v H1 H2 b2 f1 k1 x2 k2 r2 fr => ?_) (fun _ _ z => z) _ _ q3⟩
          obtain ⟨w1, w2, w3, w4⟩ := q4 vs' v H1 H2 b2 f1 k1 x2 k2 r2 fr
          have wl : vs'.length = 1 := by
            rw [List.length_append] at w1
            exact Nat.succ.inj w1
          match vs', wl, w3 with
          | [u], _, w3 => exact ⟨u, v, rfl, w3⟩
      · match l, ps, is, vs, hln.trans hl, e1, n1', hl2.trans hl with
        | [x, y, z], [px, py, pz], [i, i2], [a, b, d], _, _, _, _ =>
          have t2 : ts = [.Name x px, .Name y py, .Name z pz] := e2
          subst t2
          obtain ⟨i', z1, z2⟩ := n2 0 x rfl
          obtain ⟨j', z3, z4⟩ := n2 1 y rfl
          obtain ⟨l', z5, z6⟩ := n2 2 z rfl
          cases z1
          cases z3
          cases z5
          have hn : i ≠ i2 ∧ i ≠ j ∧ i2 ≠ j := by
            simp at h7
            exact ⟨h7.1.1, h7.1.2, h7.2⟩
          refine PS.imp (ps_par3 g.calm hN (by rw [g.n]; exact z2) (by rw [g.n]; exact z4) (by rw [g.n]; exact z6) hn.1 hn.2.1 hn.2.2 (hloc x (by simp)) (hloc y (by simp)) (hloc z (by simp)) pa hw' rfl) fun T σ H q => ?_
          have q2 := tParF_of (is := [i, i2]) h3 q
          obtain ⟨Γ, pa', B, b, o, q3⟩ := q2
          refine ⟨Γ, pa', B, b, o, Tr.wp_mono (fun b1 p q4 vs' v H1 H2 b2 f1 k1 x2 k2 r2 fr => ?_) (fun _ _ z => z) _ _ q3⟩
          obtain ⟨w1, w2, w3, w4⟩ := q4 vs' v H1 H2 b2 f1 k1 x2 k2 r2 fr
          have wl : vs'.length = 2 := by
            rw [List.length_append] at w1
            exact Nat.succ.inj w1
          match vs', wl, w3 with
          | [u, u2], _, w3 => exact ⟨u, u2, v, rfl, w3⟩
    · cases h4
  · cases h
end
end Mi
end
section
set_option linter.all false
set_option maxRecDepth 100000
set_option Elab.async false
set_option maxHeartbeats 2000000
/-! Statements: the check, what it promises. -/
namespace Mi
open PySem PySem.Spec PyProof.Rows L2
section
variable {K : PySem.W.Frag} {c : Cfg} {Z : (Addr → Prop) → Hp → Prop} {pa : Pa (c.T K)} {B0 B : Addr → Prop} {H0 H H' H1 : Hp} {b b' b1 : Nat} {σ : L2.St} {g : Gs} {ms : List Nat} {d : D} {W : WX} {cl : Cl} {T : Ends}
theorem RelS.less {Z' : (Addr → Prop) → Hp → Prop} (r : RelS Z pa B0 H0 b H σ g) (zs : Stab Z') (z : Z' (Bn B0 g σ) H) : RelS Z' pa B0 H0 b H σ g := ⟨r.ent, r.hk, r.ex, r.len, r.val, r.own, r.inj, zs, z⟩
theorem RelS.rmN (r : RelS Z pa B0 H0 b H σ g) : Rm pa (Bn B0 g σ) b H := ⟨r.hk, .inl r.ent.bp, r.bmd⟩
/-- a target of a loop -/
theorem RelS.bind {t : Tg} {g' : Gs} {x : V} {Q : L2.St → Hp → Prop} (r : RelS Z pa B0 H0 b H σ g) (rv : Rep pa (Bn B0 g σ) H x d) (h : bindG d t g = some g') (hQ : ∀ σ2, RelS Z pa B0 H0 b H σ2 g' → Q σ2 H) : gTg K t x σ H Q := by
  cases t with
  | nm i =>
    cases h
    exact hQ _ (r.setv rv)
  | tp is =>
    cases d with
    | tup ds =>
      simp only [bindG] at h
      split at h
      · rename_i hl
        cases h
        cases rv with
        | tup e hz rv =>
          refine .inl ⟨_, _, rfl, SqT.of e, by rw [rv.length, hl], gNs_of (by rw [rv.length, hl]) (hQ _ (r.sets rv hl).1)⟩
      · cases h
    | lst ds =>
      simp only [bindG] at h
      split at h
      · rename_i hl
        cases h
        cases rv with
        | lst nb e hz rv =>
          refine .inr ⟨_, _, rfl, SqL.of e, by rw [rv.length, hl], gNs_of (by rw [rv.length, hl]) (hQ _ (r.sets rv hl).1)⟩
      · cases h
    | _ => cases h
theorem unp_imp {is : List Nat} {e : E} (h : tC K c W (ex cl c.tb (.unp is e)) T σ H) : tAsg (tE K c W (ev cl c.tb e)) (gTg K (.tp is)) T σ H := by
  obtain ⟨g, Z, pa, B0, H0, b, r, h⟩ := h
  have h1 := (Tr.wp_bind _ _).mp h
  refine ⟨vis e.ment g, pa, Bm B0 e.ment g σ, b, r.okk, Tr.wp_mono (fun b1 d h2 v H1 x kk rv => ?_) (fun _ _ z => ErC.er r z) _ _ h1⟩
  have q1 := (r.step x kk).clrB (imm d) e.ment
  cases hb : bindG d (.tp is) (clr (imm d) e.ment g) with
  | none =>
    simp only [hb] at h2
    exact h2.elim
  | some g' =>
    simp only [hb] at h2
    exact q1.bind (rep_clr rv fun z => z) hb fun σ2 q2 => (show ∀ σ' H', RelS Z pa B0 H0 b1 H' σ' g' → T.nx σ' H' from h2) _ _ q2
def rSetA : TSet := fun o i v H Q => rSetL o i v H Q ∨ rSetD o i v H Q
theorem set_any {X : Cx} (hu : X.A.units + 1 < cLine) : PSet X rSetA := by
  intro pins s σ H o i v ov iv u Q I ro ri rv h
  rcases h with h | h
  · exact set_list pins s σ H o i v ov iv u Q I ro ri rv h
  · exact set_dict hu pins s σ H o i v ov iv u Q I ro ri rv h
theorem seti_imp {i : Nat} {ek e : E} (h : tC K c W (ex cl c.tb (.seti i ek e)) T σ H) : tAsg (tE K c W (ev cl c.tb e)) (gSub (tVar i) (tE K c W (ev cl c.tb ek)) rSetA) T σ H := by
  obtain ⟨g, Z, pa, B0, H0, b, r, h⟩ := h
  have h1 := (Tr.wp_bind _ _).mp h
  refine ⟨vis e.ment g, pa, Bm B0 e.ment g σ, b, r.okk, Tr.wp_mono (fun b1 y h2 v H1 x kk rv => ?_) (fun _ _ z => ErC.er r z) _ _ h1⟩
  have r1 := r.step x kk
  split at h2
  case h_2 => exact h2.elim
  rename_i d hy hg
  have h3 := (Tr.wp_bind _ _).mp h2
  obtain ⟨a, hs, h0, oo⟩ := r1.own i d hg
  refine ⟨_, hs, vis ek.ment g, pa, Bm B0 ek.ment g σ, b1, r1.okk, Tr.wp_mono (fun b2 kd h4 kv H2 x2 k2 rk => ?_) (fun _ _ z => ErC.er r1 z) _ _ h3⟩
  have r2 := r1.step x2 k2
  obtain ⟨a', hs', _, oo2⟩ := r2.own i d hg
  rw [hs] at hs'
  cases hs'
  have ry : Rep pa (Bn B0 g σ) H2 v y := (rv.imm (B' := Bn B0 g σ) hy).keeps (x2.keeps kk (.inl r.ent.bp))
  cases hd : setO d kd y with
  | none =>
    rw [hd] at h4
    exact h4.elim
  | some d' =>
    rw [hd] at h4
    have nx : ∀ u, OwnR pa (Bn B0 g σ) (upd H2 a u) a d' → T.nx σ (upd H2 a u) := fun u o' => (show ∀ σ' H', RelS Z pa B0 H0 b2 H' σ' _ → T.nx σ' H' from h4) _ _ (r2.write hg hs o')
    obtain ⟨ui, hu, _⟩ := oo2.tracked
    have ht : ∀ vs, ui ≠ .tup vs := fun vs z => oo2.ntup vs (by rw [hu, z])
    have hx : ∀ phi, ui ≠ .ext phi := fun phi z => oo2.next phi (by rw [hu, z])
    have wr : ∀ u, Keeps (Bn B0 g σ) (Bn B0 g σ) H2 (upd H2 a u) := fun u => Keeps.write (.inr ⟨i, d, hg, hs⟩) hu ht hx
    cases d with
    | lst ds =>
      obtain ⟨vs, e1, e2, e3⟩ := oo2
      cases rk with
      | int k =>
        simp only [setO] at hd
        split at hd
        · rename_i j hj
          cases hd
          exact .inl ⟨a, vs, k, j, rfl, rfl, e1, by rw [e3.length]; exact hj, nx _ ⟨vs.set j v, upd_same, by rw [List.length_set]; exact e2, (e3.set j ry).keeps (wr _)⟩⟩
        · cases hd
      | _ => cases hd
    | dct ds =>
      obtain ⟨kvs, e1, e2, e3⟩ := oo2
      cases rk with
      | str z hz hz2 =>
        simp only [setO] at hd
        split at hd
        · rename_i hlt
          cases hd
          have hkl : kvs.length < sizeLine := by rw [line_eq, e3.length]; exact hlt
          refine .inr ⟨a, _, rfl, DPut.k (k := Sum.inr ⟨z.toArray⟩) e1 hkl, nx _ ⟨_, upd_same, ?_, (e3.put ⟨hz, hz2⟩ ry).keeps (wr _)⟩⟩
          have := length_putK kvs (Sum.inr ⟨z.toArray⟩ : Key) v
          rw [line_eq] at hkl
          omega
        · cases hd
      | _ => cases hd
    | _ => cases hd
theorem app_imp {i : Nat} {e : E} (h : tC K c W (ex cl c.tb (.app i e)) T σ H) : tDrop (tBM K "list" rAppend (tVar i) (tCons (tE K c W (ev cl c.tb e)) tNil)) T σ H := by
  obtain ⟨g, Z, pa, B0, H0, b, r, h⟩ := h
  simp only [ex] at h
  split at h
  case h_2 => exact h.elim
  rename_i xs hg
  have h1 := (Tr.wp_bind _ _).mp h
  obtain ⟨a, hs, h0, oo⟩ := r.own i _ hg
  have oo' := oo
  obtain ⟨vs, e1, e2, e3⟩ := oo'
  refine ⟨_, hs, .inl ⟨rfl, vs, SqL.of e1⟩, ?_⟩
  refine ⟨vis e.ment g, pa, Bm B0 e.ment g σ, b, r.okk, Tr.wp_mono (fun b1 y h2 v H1 x kk rv => ?_) (fun _ _ z => ErC.er r z) _ _ h1⟩
  by_cases hy : (imm y || noOwn e.ment g) = true ∧ xs.length < line
  · rw [if_pos hy] at h2
    have r1 := r.step x kk
    obtain ⟨a', hs', _, oo2⟩ := r1.own i _ hg
    rw [hs] at hs'
    cases hs'
    obtain ⟨vs2, f1, f2, f3⟩ := oo2
    have ry : Rep pa (Bn B0 g σ) H1 v y := by
      cases hi : imm y with
      | true => exact rv.imm hi
      | false =>
        have hn : noOwn e.ment g = true := by simpa [hi] using hy.1
        have hB : Bm B0 e.ment g σ = Bn B0 g σ := by
          funext c
          apply propext
          refine ⟨Bm.le c, fun z => ?_⟩
          rcases z with z | ⟨j, dj, g1, g2⟩
          · exact .inl z
          · refine .inr ⟨j, fun hj => ?_, dj, g1, g2⟩
            have := List.all_eq_true.mp hn j hj
            simp [g1] at this
        rw [← hB]
        exact rv
    have hl : vs2.length < line := by rw [f3.length]; exact hy.2
    refine ⟨a, vs2, v, rfl, rfl, f1, by rw [line_eq]; exact hl, ?_⟩
    exact (show ∀ σ' H', RelS Z pa B0 H0 b1 H' σ' _ → T.nx σ' H' from h2) _ _ (r1.write hg hs ⟨_, upd_same, by rw [List.length_append]; exact hl, (f3.append (.cons ry .nil)).keeps (Keeps.write (.inr ⟨i, _, hg, hs⟩) f1 (by intro ts z; cases z) (by intro phi z; cases z))⟩)
  · rw [if_neg hy] at h2
    exact h2.elim
end
end Mi
end
section
set_option linter.all false
set_option maxRecDepth 100000
set_option Elab.async false
set_option maxHeartbeats 2000000
/-! Statements: loops, tests; the check, what it promises. -/
namespace Mi
open PySem PySem.Spec PyProof.Rows L2
section
variable {K : PySem.W.Frag} {c : Cfg} {Z : (Addr → Prop) → Hp → Prop} {pa : Pa (c.T K)} {B0 B : Addr → Prop} {H0 H H' H1 : Hp} {b b' b1 : Nat} {σ : L2.St} {g : Gs} {ms : List Nat} {d : D} {W : WX} {cl : Cl} {T : Ends}
theorem Wk.any {J : It} {G : (Addr → Prop) → Hp → Prop} {Y : Nat → Hp → V → Hp → Prop} {ds : List D} (w : Wk pa J G Y ds) : Walk J ds.length (fun H => ∃ B, G B H) (fun i H x H' => Y i H x H') :=
  ⟨fun i H hi ⟨B, h⟩ => (w.walk B).goes i H hi h, fun H ⟨B, h⟩ => (w.walk B).stops H h, fun i H x H' hi ⟨B, h⟩ y => (w.walk B).yields i H x H' hi h y⟩
theorem for_imp {t : Tg} {s : Src} {bd : Cs} (h : tC K c W (ex cl c.tb (.for_ t s bd)) T σ H) : tFor (tS K c W (evS cl c.tb s)) (gTg K t) (tC K c W (exs cl c.tb bd)) T σ H := by
  obtain ⟨g0, Z, pa, B0, H0, b, r, h⟩ := h
  have h1 := (Tr.wp_bind _ _).mp h
  refine ⟨vis s.ment g0, pa, Bm B0 s.ment g0 σ, b, r.okk, Tr.wp_mono (fun b1 xs h2 J G Y H1 x kk w gg => ?_) (fun _ _ z => ErC.er r z) _ _ h1⟩
  have r1 := (r.step x kk).clrF s.ment
  have gg' : G (Bn B0 (clr false s.ment g0) σ) H1 := by rw [Bn_clr]; exact gg
  have zs : Stab (fun B H => Z B H ∧ G B H) := fun B B' H H' z k => ⟨r.zs _ _ _ _ z.1 k, w.stays _ _ _ _ z.2 k⟩
  have r2 : RelS (fun B H => Z B H ∧ G B H) pa B0 H0 b1 H1 σ (clr false s.ment g0) := r1.less zs ⟨r1.z, gg'⟩
  have back : ∀ {b : Nat} {H : Hp} {σ : L2.St} {g : Gs}, RelS (fun B H => Z B H ∧ G B H) pa B0 H0 b H σ g → RelS Z pa B0 H0 b H σ g := fun q => q.less r.zs q.z.1
  refine for_it w.any (fun i σ H => ∃ b g, RelS (fun B H => Z B H ∧ G B H) pa B0 H0 b H σ g ∧ (forL (fun d g => match bindG d t g with
    | some g' => exs cl c.tb bd g'
    | none => .stuck) (xs.drop i) g).wp b (PoC Z pa B0 H0 T) (ErC K c W pa H0)) ⟨b1, _, r2, h2⟩ (fun i σ H _ ⟨b, g, q, _⟩ => ⟨_, q.z.2⟩) ?_ ?_
  · rintro i v σ2 H2 H3 hi ⟨b2, g2, q2, hf⟩ y
    obtain ⟨x3, k3, d, hd, rv⟩ := w.gives _ i H2 v H3 b2 hi q2.z.2 q2.rmN y
    have hdrop : xs.drop i = d :: xs.drop (i + 1) := by
      have e := List.drop_eq_getElem_cons hi
      rw [List.getElem?_eq_getElem hi] at hd
      cases hd
      exact e
    rw [hdrop] at hf
    have h3 := (Tr.wp_bind _ _).mp hf
    cases hb : bindG d t g2 with
    | none =>
      simp only [hb] at h3
      exact h3.elim
    | some g3 =>
      simp only [hb] at h3
      refine (q2.step x3 k3).bind rv hb fun σ3 q3 => ⟨g3, _, pa, B0, H0, b2, q3, Tr.wp_mono (fun b4 fl h4 => ?_) (fun _ _ z => z) _ _ h3⟩
      cases fl with
      | next g4 => exact fun σ' H' q => ⟨b4, g4, q, h4⟩
      | cont g4 => exact fun σ' H' q => ⟨b4, g4, q, h4⟩
      | brk g4 => exact fun σ' H' q => (show ∀ σ' H', RelS Z pa B0 H0 b4 H' σ' g4 → T.nx σ' H' from h4) _ _ (back q)
      | ret d => exact h4
  · rintro σ2 H2 ⟨b2, g2, q2, hf⟩
    rw [List.drop_length] at hf
    exact (show ∀ σ' H', RelS Z pa B0 H0 b2 H' σ' g2 → T.nx σ' H' from hf) _ _ (back q2)
/-! ### for t in d, d a dict: it is locked meanwhile -/
theorem RepK.getK {B : Addr → Prop} {H : Hp} {τ : Tbs} {pa : Pa τ} : ∀ {kvs : List (Key × V)} {ds : List (S × D)} {i : Nat} {k : Key} {v : V}, RepK pa B H kvs ds → kvs[i]? = some (k, v) → ∃ x d, ds[i]? = some (x, d) ∧ k = .inr ⟨x.toArray⟩ ∧ x.length ≤ line ∧ x.all (fun c => decide (c < 0x110000)) = true
  | _, _, _, _, _, .nil, e => by simp at e
  | _, _, 0, _, _, .cons l r _, e => by
    simp at e
    obtain ⟨rfl, rfl⟩ := e
    exact ⟨_, _, rfl, rfl, l.1, l.2⟩
  | _, _, i + 1, _, _, .cons _ _ t, e => by
    obtain ⟨x, d, h1, h2⟩ := RepK.getK (i := i) t (by simpa using e)
    exact ⟨x, d, by simpa using h1, h2⟩
theorem frzNT {o : Obj} {u : HO} : NT (.frz o u) := fun ps z => by cases z
/-- what stood at the entry, one thing of it locked -/
theorem Ent.frz {a : Addr} {o : Obj} {u : HO} (e : Ent pa B0 H0) : Ent pa B0 (upd H0 a (.frz o u)) := by
  have go : ∀ x, (∃ o', H0 x = some o' ∧ NT o') → ∃ o', upd H0 a (.frz o u) x = some o' ∧ NT o' := fun x h => by
    by_cases z : x = a
    · subst z
      exact ⟨_, upd_same, frzNT⟩
    · rw [upd_ne z]
      exact h
  exact ⟨e.bp, fun x hx => go x (e.bd x hx), go _ e.hp, go _ e.hc⟩
theorem keeps_frz {a : Addr} {o : Obj} {kvs : List (Key × V)} (h : H a = some (.dK kvs)) : Keeps B B H (upd H a (.frz o (.dK kvs))) :=
  ⟨fun x vs e => by rw [upd_ne (ne_of e h (by intro z; cases z))]; exact e, fun x vs _ e => by rw [upd_ne (ne_of e h (by intro z; cases z))]; exact e, fun x ks _ e => by
    by_cases z : x = a
    · subst z
      rcases e with e | ⟨q, e⟩
      · rw [h] at e
        cases e
        exact .inr ⟨o, upd_same⟩
      · rw [h] at e
        cases e
    · exact rd_upd z e, fun _ n _ => n, fun x phi e => by rw [upd_ne (ne_of e h (by intro z; cases z))]; exact e⟩
theorem keeps_unf {a : Addr} {o : Obj} {kvs : List (Key × V)} (h : H a = some (.frz o (.dK kvs))) : Keeps B B H (upd H a (.dK kvs)) :=
  ⟨fun x vs e => by rw [upd_ne (ne_of e h (by intro z; cases z))]; exact e, fun x vs _ e => by rw [upd_ne (ne_of e h (by intro z; cases z))]; exact e, fun x ks _ e => by
    by_cases z : x = a
    · subst z
      rcases e with e | ⟨q, e⟩
      · rw [h] at e
        cases e
      · rw [h] at e
        cases e
        exact .inl upd_same
    · exact rd_upd z e, fun _ n _ => n, fun x phi e => by rw [upd_ne (ne_of e h (by intro z; cases z))]; exact e⟩
theorem Hk.ne {τ : Tbs} {pa : Pa τ} {a : Addr} {kvs : List (Key × V)} {B : Addr → Prop} (k : Hk pa b H) (bp : B pa.p) (hB : ¬ B a) (h : Rd H a (.dK kvs)) : a ≠ pa.p ∧ a ≠ pa.c := by
  refine ⟨fun z => hB (z ▸ bp), fun z => ?_⟩
  obtain ⟨n, ns, at_, rest, h1, h2, h3⟩ := k
  rcases h with h | ⟨q, h⟩
  · rw [z, h2] at h
    cases h
  · rw [z, h2] at h
    cases h
theorem not_own {a a' : Addr} {o : Obj} {u : HO} (h : Nw (upd H0 a (.frz o u)) a') : a' ≠ a ∧ Nw H0 a' := by
  have n : a' ≠ a := fun z => by
    subst z
    obtain ⟨ps, w⟩ := h _ upd_same
    cases w
  refine ⟨n, fun q e => h q ?_⟩
  rw [upd_ne n]
  exact e
/-- the loop begins: locked now, and at the entry -/
theorem RelS.frz {a : Addr} {o : Obj} {kvs : List (Key × V)} (r : RelS Z pa B0 H0 b H σ g) (hB : ¬ Bn B0 g σ a) (h : H a = some (.dK kvs)) : RelS Z pa B0 (upd H0 a (.frz o (.dK kvs))) b (upd H a (.frz o (.dK kvs))) σ g := by
  obtain ⟨n1, n2⟩ := r.hk.ne (B := Bn B0 g σ) (.inl r.ent.bp) hB (.inl h)
  refine ⟨r.ent.frz, r.hk.put n1 n2 (put_dct h), ⟨fun x u e n t => ?_, fun x u e t => ?_⟩, r.len, fun i d e => ?_, fun i d e => ?_, r.inj, r.zs, r.zs _ _ _ _ r.z (keeps_frz h)⟩
  · by_cases z : x = a
    · subst z
      rw [upd_same] at e ⊢
      exact e
    · rw [upd_ne z] at e ⊢
      exact r.ex.keep x u e n t
  · by_cases z : x = a
    · subst z
      exact ⟨_, upd_same, frzNT⟩
    · rw [upd_ne z] at e ⊢
      exact r.ex.dom x u e t
  · obtain ⟨v, h1, h2⟩ := r.val i d e
    exact ⟨v, h1, h2.keeps (keeps_frz h)⟩
  · obtain ⟨a', h1, h2, h3⟩ := r.own i d e
    have n : a' ≠ a := fun z => hB (z ▸ .inr ⟨i, d, e, h1⟩)
    refine ⟨a', h1, fun q w => h2 q (by rw [upd_ne n] at w; exact w), h3.keeps (keeps_frz h) fun u w _ => by rw [upd_ne n]; exact w⟩
/-- it was locked before -/
theorem RelS.frz0 {a : Addr} {o : Obj} {kvs : List (Key × V)} (r : RelS Z pa B0 H0 b H σ g) (hB : ¬ Bn B0 g σ a) (h : H a = some (.frz o (.dK kvs))) : RelS Z pa B0 (upd H0 a (.frz o (.dK kvs))) b H σ g := by
  refine ⟨r.ent.frz, r.hk, ⟨fun x u e n t => ?_, fun x u e t => ?_⟩, r.len, r.val, fun i d e => ?_, r.inj, r.zs, r.z⟩
  · by_cases z : x = a
    · subst z
      rw [upd_same] at e
      cases e
      exact h
    · rw [upd_ne z] at e
      exact r.ex.keep x u e n t
  · by_cases z : x = a
    · subst z
      exact ⟨_, h, frzNT⟩
    · rw [upd_ne z] at e
      exact r.ex.dom x u e t
  · obtain ⟨a', h1, h2, h3⟩ := r.own i d e
    have n : a' ≠ a := fun z => hB (z ▸ .inr ⟨i, d, e, h1⟩)
    exact ⟨a', h1, fun q w => h2 q (by rw [upd_ne n] at w; exact w), h3⟩
theorem ex_frz {a : Addr} {o : Obj} {u : HO} (x : Ex pa (upd H0 a (.frz o u)) H') (n : a ≠ pa.p) : H' a = some (.frz o u) := x.keep a _ upd_same n (fun ps z => by cases z)
theorem ex_unf {a : Addr} {o : Obj} {kvs : List (Key × V)} (x0 : Ex pa H0 H) (h : H a = some (.dK kvs)) (n : a ≠ pa.p) (x : Ex pa (upd H0 a (.frz o (.dK kvs))) H') : Ex pa H0 (upd H' a (.dK kvs)) := by
  refine ⟨fun y u e m t => ?_, fun y u e t => ?_⟩
  · by_cases z : y = a
    · subst z
      have := x0.keep y u e m t
      rw [h] at this
      rw [upd_same]
      exact this
    · rw [upd_ne z]
      exact x.keep y u (by rw [upd_ne z]; exact e) m t
  · by_cases z : y = a
    · subst z
      exact ⟨_, upd_same, fun ps z => by cases z⟩
    · rw [upd_ne z]
      exact x.dom y u (by rw [upd_ne z]; exact e) t
theorem ex_unf0 {a : Addr} {o : Obj} {kvs : List (Key × V)} (x0 : Ex pa H0 H) (h : H a = some (.frz o (.dK kvs))) (n : a ≠ pa.p) (x : Ex pa (upd H0 a (.frz o (.dK kvs))) H') : Ex pa H0 H' := by
  have h' := ex_frz x n
  refine ⟨fun y u e m t => ?_, fun y u e t => ?_⟩
  · by_cases z : y = a
    · subst z
      have := x0.keep y u e m t
      rw [h] at this
      rw [h']
      exact this
    · exact x.keep y u (by rw [upd_ne z]; exact e) m t
  · by_cases z : y = a
    · subst z
      exact ⟨_, h', frzNT⟩
    · exact x.dom y u (by rw [upd_ne z]; exact e) t
theorem hk_unf {a : Addr} {o : Obj} {kvs : List (Key × V)} (k : Hk pa b H') (h : H' a = some (.frz o (.dK kvs))) (n1 : a ≠ pa.p) (n2 : a ≠ pa.c) : Hk pa b (upd H' a (.dK kvs)) := k.put n1 n2 fun u e => by
  rw [h] at e
  cases e
  exact ⟨(fun ps z => by cases z), (fun phi z => by cases z)⟩
/-- the loop ends -/
theorem RelS.unf {a : Addr} {o : Obj} {kvs : List (Key × V)} {σ' : L2.St} {g' : Gs} (e0 : Ent pa B0 H0) (x0 : Ex pa H0 H) (h : H a = some (.dK kvs)) (n1 : a ≠ pa.p) (n2 : a ≠ pa.c) (r : RelS Z pa B0 (upd H0 a (.frz o (.dK kvs))) b H' σ' g') : RelS Z pa B0 H0 b (upd H' a (.dK kvs)) σ' g' := by
  have h' := ex_frz r.ex n1
  refine ⟨e0, hk_unf r.hk h' n1 n2, ex_unf x0 h n1 r.ex, r.len, fun i d e => ?_, fun i d e => ?_, r.inj, r.zs, r.zs _ _ _ _ r.z (keeps_unf h')⟩
  · obtain ⟨v, h1, h2⟩ := r.val i d e
    exact ⟨v, h1, h2.keeps (keeps_unf h')⟩
  · obtain ⟨a', h1, h2, h3⟩ := r.own i d e
    obtain ⟨n, h4⟩ := not_own h2
    exact ⟨a', h1, h4, h3.keeps (keeps_unf h') fun u w _ => by rw [upd_ne n]; exact w⟩
theorem RelS.unf0 {a : Addr} {o : Obj} {kvs : List (Key × V)} {σ' : L2.St} {g' : Gs} (e0 : Ent pa B0 H0) (x0 : Ex pa H0 H) (h : H a = some (.frz o (.dK kvs))) (n1 : a ≠ pa.p) (r : RelS Z pa B0 (upd H0 a (.frz o (.dK kvs))) b H' σ' g') : RelS Z pa B0 H0 b H' σ' g' := by
  refine ⟨e0, r.hk, ex_unf0 x0 h n1 r.ex, r.len, r.val, fun i d e => ?_, r.inj, r.zs, r.z⟩
  obtain ⟨a', h1, h2, h3⟩ := r.own i d e
  exact ⟨a', h1, (not_own h2).2, h3⟩
def tKeys (i : Nat) (g : TG) (tb : TS) : TS := tFor (iKeys (tVar i)) g tb
def tForK (i : Nat) (g : TG) (tb : TS) : TS := fun D σ H => tLock (tKeys i g tb) D σ H ∨ tKeys i g tb D σ H
theorem ps_forK {X : Cx} {st : Stmt} {i : Nat} {g : TG} {tb : TS} (h : PS X st (tKeys i g tb)) : PS X st (tForK i g tb) := ⟨fun pins s σ H D I hw => by
  rcases hw with hw | hw
  · exact (ps_lock h).run pins s σ H D I hw
  · exact h.run pins s σ H D I hw⟩
/-- from the locked dict on -/
theorem keys_core {t : Tg} {bd : Cs} {a : Addr} {o : Obj} {kvs : List (Key × V)} {ds : List (S × D)} {BB : Addr → Prop} {HH : Hp} {i : Nat} (hn : a ≠ pa.p) (hσ : σ[i]? = some (some (.ref a))) (r : RelS Z pa B0 (upd H0 a (.frz o (.dK kvs))) b H σ g) (rk : RepK pa BB HH kvs ds)
    (h : (forL (fun d g => match bindG d t g with
      | some g' => exs cl c.tb bd g'
      | none => .stuck) (ds.map fun p => .str p.1) g).wp b (PoC Z pa B0 (upd H0 a (.frz o (.dK kvs))) T) (fun _ _ => False)) : tKeys i (gTg K t) (tC K c W (exs cl c.tb bd)) T σ H := by
  have hl : kvs.length = ds.length := rk.length
  refine ⟨.ref a, hσ, a, o, rfl, .inl ⟨kvs, ex_frz r.ex hn, ?_⟩⟩
  have w : Walk (Itk a o kvs) kvs.length (fun H => H a = some (.frz o (.dK kvs))) (fun i H x H' => H' = H ∧ ∃ k v, kvs[i]? = some (k, v) ∧ x = kV k) :=
    ⟨fun i H hi hH => ⟨hH, hi⟩, fun H hH => ⟨hH, Nat.le_refl _⟩, fun i H x H' _ _ y => y⟩
  refine for_it w (fun i σ H => ∃ b g, RelS Z pa B0 (upd H0 a (.frz o (.dK kvs))) b H σ g ∧ (forL (fun d g => match bindG d t g with
    | some g' => exs cl c.tb bd g'
    | none => .stuck) ((ds.map fun p : S × D => D.str p.1).drop i) g).wp b (PoC Z pa B0 (upd H0 a (.frz o (.dK kvs))) T) (fun _ _ => False)) ⟨b, g, r, h⟩ (fun i σ H _ ⟨b, g, q, _⟩ => ex_frz q.ex hn) ?_ ?_
  · rintro i v σ2 H2 H3 hi ⟨b2, g2, q2, hf⟩ ⟨rfl, k, vv, hk, rfl⟩
    obtain ⟨x, d, hx, rfl, hx1, hx2⟩ := rk.getK hk
    have hdrop : (ds.map fun p : S × D => D.str p.1).drop i = .str x :: (ds.map fun p : S × D => D.str p.1).drop (i + 1) := by
      have hi' : i < (ds.map fun p : S × D => D.str p.1).length := by rw [List.length_map, ← hl]; exact hi
      have e := List.drop_eq_getElem_cons hi'
      rw [e]
      congr 1
      have : (ds.map fun p : S × D => D.str p.1)[i]? = some (.str x) := by rw [List.getElem?_map, hx]; rfl
      rw [List.getElem?_eq_getElem hi'] at this
      exact Option.some.inj this
    rw [hdrop] at hf
    have h3 := (Tr.wp_bind _ _).mp hf
    cases hb : bindG (.str x) t g2 with
    | none =>
      simp only [hb] at h3
      exact h3.elim
    | some g3 =>
      simp only [hb] at h3
      have rv : Rep pa (Bn B0 g2 σ2) H3 (kV (.inr ⟨x.toArray⟩)) (.str x) := .str x hx1 hx2
      refine q2.bind rv hb fun σ3 q3 => ⟨g3, _, pa, B0, _, b2, q3, Tr.wp_mono (fun b4 fl h4 => ?_) (fun _ _ z => z.elim) _ _ h3⟩
      cases fl with
      | next g4 => exact fun σ' H' q => ⟨b4, g4, q, h4⟩
      | cont g4 => exact fun σ' H' q => ⟨b4, g4, q, h4⟩
      | brk g4 => exact fun σ' H' q => (show ∀ σ' H', RelS Z pa B0 _ b4 H' σ' g4 → T.nx σ' H' from h4) _ _ q
      | ret d => exact h4
  · rintro σ2 H2 ⟨b2, g2, q2, hf⟩
    have hd : (ds.map fun p : S × D => D.str p.1).drop kvs.length = [] := List.drop_of_length_le (by rw [List.length_map, hl]; exact Nat.le_refl _)
    rw [hd] at hf
    exact (show ∀ σ' H', RelS Z pa B0 _ b2 H' σ' g2 → T.nx σ' H' from hf) _ _ q2
theorem forK_imp {t : Tg} {i : Nat} {bd : Cs} (h : tC K c W (ex cl c.tb (.forK t i bd)) T σ H) : tForK i (gTg K t) (tC K c W (exs cl c.tb bd)) T σ H := by
  obtain ⟨g0, Z, pa, B0, H0, b, r, h⟩ := h
  simp only [ex] at h
  split at h
  case h_2 => exact h.elim
  rename_i ds hg
  have h1 := (Tr.wp_noErr _ _).mp h
  obtain ⟨v, hσ, rv⟩ := r.okk (ms := [i]) |>.slots i _ hg
  have r1 := r.clrF [i]
  have eB : Bn B0 (clr false [i] g0) σ = Bm B0 [i] g0 σ := Bn_clr
  cases rv with
  | dct nB rd hl rk =>
    rename_i a kvs
    have nB' : ¬ Bn B0 (clr false [i] g0) σ a := by rw [eB]; exact nB
    obtain ⟨n1, n2⟩ := r.hk.ne (B := Bm B0 [i] g0 σ) (.inl r.ent.bp) nB rd
    rcases rd with rd | ⟨o, rd⟩
    · refine .inl ⟨a, _, rd, trivial, fun o => ?_⟩
      refine keys_core n1 hσ (r1.frz nB' rd) rk (Tr.wp_mono (fun b2 fl h2 => ?_) (fun _ _ z => z) _ _ h1)
      cases fl with
      | next g' => exact fun σ' H' q => ⟨ex_frz q.ex n1, h2 _ _ (RelS.unf r.ent r.ex rd n1 n2 q)⟩
      | brk g' => exact fun σ' H' q => ⟨ex_frz q.ex n1, h2 _ _ (RelS.unf r.ent r.ex rd n1 n2 q)⟩
      | cont g' => exact fun σ' H' q => ⟨ex_frz q.ex n1, h2 _ _ (RelS.unf r.ent r.ex rd n1 n2 q)⟩
      | ret d => exact fun v H' x k rv => ⟨ex_frz x n1, h2 v _ (ex_unf r.ex rd n1 x) (hk_unf k (ex_frz x n1) n1 n2) (rv.keeps (keeps_unf (ex_frz x n1)))⟩
    · refine .inr (keys_core n1 hσ (r1.frz0 nB' rd) rk (Tr.wp_mono (fun b2 fl h2 => ?_) (fun _ _ z => z) _ _ h1))
      cases fl with
      | next g' => exact fun σ' H' q => h2 _ _ (RelS.unf0 r.ent r.ex rd n1 q)
      | brk g' => exact fun σ' H' q => h2 _ _ (RelS.unf0 r.ent r.ex rd n1 q)
      | cont g' => exact fun σ' H' q => h2 _ _ (RelS.unf0 r.ent r.ex rd n1 q)
      | ret d => exact fun v H' x k rv => h2 v _ (ex_unf0 r.ex rd n1 x) k rv
theorem whl_imp {t : E} {bd : Cs} (h : tC K c W (ex cl c.tb (.whl t bd)) T σ H) : tWhile (tT K c W fun Γ => (ev cl c.tb t Γ).bind truth) (tC K c W (exs cl c.tb bd)) T σ H := by
  obtain ⟨g0, Z, pa, B0, H0, b, r, h⟩ := h
  refine ⟨fun m σ H => ∃ b g, RelS Z pa B0 H0 b H σ g ∧ (whlL (fun g => (ev cl c.tb t (vis t.ment g)).bind truth) (fun g => exs cl c.tb bd g) m g).wp b (PoC Z pa B0 H0 T) (ErC K c W pa H0), ⟨most, b, g0, r, h⟩, ?_⟩
  rintro m σ2 H2 ⟨b2, g2, q2, hw⟩
  cases m with
  | zero => exact hw.elim
  | succ m =>
    have h1 := (Tr.wp_bind _ _).mp hw
    refine ⟨vis t.ment g2, pa, Bm B0 t.ment g2 σ2, b2, q2.okk, Tr.wp_mono (fun b3 k h2 H3 x kk => ?_) (fun _ _ z => ErC.er q2 z) _ _ h1⟩
    have q3 := q2.step x kk
    cases k with
    | false =>
      refine iteF ?_
      exact (show ∀ σ' H', RelS Z pa B0 H0 b3 H' σ' g2 → T.nx σ' H' from h2) _ _ q3
    | true =>
      refine iteT ?_
      have h3 := (Tr.wp_bind _ _).mp h2
      refine ⟨fun σ H => ∃ b g, RelS Z pa B0 H0 b H σ g ∧ (whlL (fun g => (ev cl c.tb t (vis t.ment g)).bind truth) (fun g => exs cl c.tb bd g) m g).wp b (PoC Z pa B0 H0 T) (ErC K c W pa H0), fun σ' H' q => ⟨m, Nat.lt_succ_self m, q⟩, ?_⟩
      refine ⟨g2, Z, pa, B0, H0, b3, q3, Tr.wp_mono (fun b4 fl h4 => ?_) (fun _ _ z => z) _ _ h3⟩
      cases fl with
      | next g4 => exact fun σ' H' q => ⟨b4, g4, q, h4⟩
      | cont g4 => exact fun σ' H' q => ⟨b4, g4, q, h4⟩
      | brk g4 => exact h4
      | ret d => exact h4
theorem ife_imp {t : E} {a bd : Cs} (h : tC K c W (ex cl c.tb (.ife t a bd)) T σ H) : tIfS (tT K c W fun Γ => (ev cl c.tb t Γ).bind truth) (tC K c W (exs cl c.tb a)) (tC K c W (exs cl c.tb bd)) T σ H := by
  obtain ⟨g0, Z, pa, B0, H0, b, r, h⟩ := h
  have h1 := (Tr.wp_bind _ _).mp h
  refine ⟨vis t.ment g0, pa, Bm B0 t.ment g0 σ, b, r.okk, (Tr.wp_bind _ _).mpr (Tr.wp_mono (fun b1 x h2 => Tr.wp_mono (fun b2 k h3 H2 x2 k2 => ?_) (fun _ _ z => ErC.er r z) _ _ ((Tr.wp_bind _ _).mp h2)) (fun _ _ z => ErC.er r z) _ _ h1)⟩
  have q := r.step x2 k2
  cases k with
  | true =>
    refine iteT ?_
    exact ⟨g0, Z, pa, B0, H0, b2, q, h3⟩
  | false =>
    refine iteF ?_
    exact ⟨g0, Z, pa, B0, H0, b2, q, h3⟩
theorem ret_imp {e : E} (h : tC K c W (ex cl c.tb (.ret e)) T σ H) : tRet (tE K c W (ev cl c.tb e)) T σ H := by
  obtain ⟨g0, Z, pa, B0, H0, b, r, h⟩ := h
  have h1 := (Tr.wp_bind _ _).mp h
  refine ⟨vis e.ment g0, pa, Bm B0 e.ment g0 σ, b, r.okk, Tr.wp_mono (fun b1 d h2 v H1 x kk rv => ?_) (fun _ _ z => ErC.er r z) _ _ h1⟩
  exact (show ∀ v H', Ex pa H0 H' → Hk pa b1 H' → Rep pa B0 H' v d → T.rt v H' from h2) v H1 (r.ex.trans x) kk (rv.keeps (Keeps.less fun a h => .inl h))
theorem expr_imp {e : E} (h : tC K c W (ex cl c.tb (.expr e)) T σ H) : tDrop (tE K c W (ev cl c.tb e)) T σ H := by
  obtain ⟨g0, Z, pa, B0, H0, b, r, h⟩ := h
  have h1 := (Tr.wp_bind _ _).mp h
  refine ⟨vis e.ment g0, pa, Bm B0 e.ment g0 σ, b, r.okk, Tr.wp_mono (fun b1 d h2 v H1 x kk rv => ?_) (fun _ _ z => ErC.er r z) _ _ h1⟩
  exact (show ∀ σ' H', RelS Z pa B0 H0 b1 H' σ' g0 → T.nx σ' H' from h2) _ _ (r.step x kk)
end
/-! ### the check -/
def vAsg : Stmt → Option (Expr × Expr)
  | .Assign [t] e _ => some (t, e)
  | _ => none
theorem vAsg_ok {s : Stmt} {t e : Expr} (h : vAsg s = some (t, e)) : ∃ p, s = .Assign [t] e p := by
  unfold vAsg at h
  split at h
  · cases h
    exact ⟨_, rfl⟩
  · cases h
def vExprS : Stmt → Option Expr
  | .Expr e _ => some e
  | _ => none
theorem vExprS_ok {s : Stmt} {e : Expr} (h : vExprS s = some e) : ∃ p, s = .Expr e p := by
  unfold vExprS at h
  split at h
  · cases h
    exact ⟨_, rfl⟩
  · cases h
def vIfS : Stmt → Option (Expr × List Stmt × List Stmt)
  | .If t a b _ => some (t, a, b)
  | _ => none
theorem vIfS_ok {s : Stmt} {t : Expr} {a b : List Stmt} (h : vIfS s = some (t, a, b)) : ∃ p, s = .If t a b p := by
  unfold vIfS at h
  split at h
  · cases h
    exact ⟨_, rfl⟩
  · cases h
def vFor : Stmt → Option (Expr × Expr × List Stmt)
  | .For t i b [] _ => some (t, i, b)
  | _ => none
theorem vFor_ok {s : Stmt} {t i : Expr} {b : List Stmt} (h : vFor s = some (t, i, b)) : ∃ p, s = .For t i b [] p := by
  unfold vFor at h
  split at h
  · cases h
    exact ⟨_, rfl⟩
  · cases h
def vWhile : Stmt → Option (Expr × List Stmt)
  | .While t b [] _ => some (t, b)
  | _ => none
theorem vWhile_ok {s : Stmt} {t : Expr} {b : List Stmt} (h : vWhile s = some (t, b)) : ∃ p, s = .While t b [] p := by
  unfold vWhile at h
  split at h
  · cases h
    exact ⟨_, rfl⟩
  · cases h
def vRet : Stmt → Option Expr
  | .Return (some e) _ => some e
  | _ => none
theorem vRet_ok {s : Stmt} {e : Expr} (h : vRet s = some e) : ∃ p, s = .Return (some e) p := by
  unfold vRet at h
  split at h
  · cases h
    exact ⟨_, rfl⟩
  · cases h
/-- raise X('m') -/
def vRais : Stmt → Option Str
  | .Raise (some (.Call (.Name x _) [.Constant (.str _) _ _] [] _)) none _ => some x
  | _ => none
theorem vRais_ok {s : Stmt} {x : Str} (h : vRais s = some x) : ∃ p m j p2 p3 p4, s = .Raise (some (.Call (.Name x p) [.Constant (.str m) j p2] [] p3)) none p4 := by
  unfold vRais at h
  split at h
  · cases h
    exact ⟨_, _, _, _, _, _, rfl⟩
  · cases h
/-- which plain statement -/
def plainS : Stmt → Nat
  | .Break _ => 1
  | .Continue _ => 2
  | .Pass _ => 3
  | .Return none _ => 4
  | _ => 0
/-- try: e / except x as n: y = n -/
def vTryX : Stmt → Option (Expr × Str × Str × Str × Str)
  | .Try [.Expr e _] [.ExceptHandler (some (.Name x _)) (some n) [.Assign [.Name y _] (.Name z _) _] _] [] [] _ => some (e, x, n, y, z)
  | _ => none
theorem vTryX_ok {s : Stmt} {e : Expr} {x n y z : Str} (h : vTryX s = some (e, x, n, y, z)) : ∃ p1 p2 p3 p4 p5 p6 p7, s = .Try [.Expr e p1] [.ExceptHandler (some (.Name x p2)) (some n) [.Assign [.Name y p3] (.Name z p4) p5] p6] [] [] p7 := by
  unfold vTryX at h
  split at h
  · cases h
    exact ⟨_, _, _, _, _, _, _, rfl⟩
  · cases h
/-- the class that is caught, what is under it -/
def exmOf (c : Cfg) (sc : Scope) (x : Str) (ws : List Nat) : Bool := c.exm.any fun p => decide (c.excs[p.1]? = some x) && decide (p.2 = ws)
mutual
def chkC (c : Cfg) (sc : Scope) : C → Stmt → Bool
  | .asg i e, st => match vAsg st with
    | some (t, a) => asgB c sc i e t a
    | none => false
  | .par is es j e, st => match vAsg st with
    | some (t, a) => parB c sc is es j e t a
    | none => false
  | .parF is es j e, st => match vAsg st with
    | some (t, a) => parB c sc is es j e t a
    | none => false
  | .unp is e, st => match vAsg st with
    | some (t, a) => (tgB c.N sc (.tp is) t && decide (vTup a = none)) && chkE c sc e a
    | none => false
  | .seti i ek e, st => match vAsg st with
    | some (t, a) => (match vSub t with
      | some (o, kx) => (match vName o with
        | some x => decide (c.N[i]? = some x) && (visB sc x && okN x)
        | none => false) && (notSlice kx && chkE c sc ek kx)
      | none => false) && chkE c sc e a
    | none => false
  | .app i e, st => match vExprS st with
    | some a => (match vMeth a with
      | some (o, m, [x]) => (decide (m = "append") && notStar x) && ((match vName o with
        | some n => decide (c.N[i]? = some n) && (visB sc n && okN n)
        | none => false) && chkE c sc e x)
      | _ => false)
    | none => false
  | .expr e, st => match vExprS st with
    | some a => notComp a && chkE c sc e a
    | none => false
  | .ife t a b, st => match vIfS st with
    | some (x, p, q) => (chkE c sc t x && notIf x) && (chkCs c sc a p && chkCs c sc b q)
    | none => false
  | .for_ t s b, st => match vFor st with
    | some (x, i, p) => (tgB c.N sc t x && notSet i) && (chkS c sc s x i && chkCs c sc b p)
    | none => false
  | .forK t j b, st => match vFor st with
    | some (x, i, p) => (tgB c.N sc t x && notSet i) && ((match vName i with
      | some n => decide (c.N[j]? = some n) && (visB sc n && okN n)
      | none => false) && chkCs c sc b p)
    | none => false
  | .whl t b, st => match vWhile st with
    | some (x, p) => (chkE c sc t x && notIf x) && chkCs c sc b p
    | none => false
  | .ret e, st => match vRet st with
    | some a => chkE c sc e a
    | none => false
  | .retN, st => plainS st == 4
  | .brk, st => plainS st == 1
  | .cont, st => plainS st == 2
  | .pas, st => plainS st == 3
  | .rais i, st => match vRais st with
    | some x => decide (c.excs[i]? = some x) && (glB sc x && okN x)
    | none => false
  | .tryX m e ws i j, st => match vTryX st with
    | some (a, x, n, y, z) => ((decide (z = n ∧ m = c.excs.length) && decide (c.N[j]? = some n)) && (decide (c.N[i]? = some y) && (okN n && (locB sc n && locB sc y)))) && ((exmOf c sc x ws && (glB sc x && okN x)) && (notComp a && chkE c sc e a))
    | none => false
  | .bad, _ => true
def chkCs (c : Cfg) (sc : Scope) : Cs → List Stmt → Bool
  | .nil, [] => true
  | .cons i is, s :: ss => chkC c sc i s && chkCs c sc is ss
  | _, _ => false
end
end Mi
end
section
set_option linter.all false
set_option maxRecDepth 100000
set_option Elab.async false
set_option maxHeartbeats 2000000
/-! try: .. except X as n: y = n; the error stays known behind it. -/
namespace Mi.Tk
open PySem PySem.Spec PyProof.Rows L2
def wAsT (K : PySem.W.Frag) (n : Nat) (c : Value) (i : Nat) (ts : Addr → Value → TS) (Wout : WX) (D : Ends) : WX := fun cls d σ H =>
  d = none ∧ ∃ b, PySem.W.exmOne K cls c = some b ∧ (b = true → σ.length = n → ∀ a, H a = none → ts a cls { nx := fun σ' H' => H' a = none → D.nx (σ'.set i none) (upd H' a (ExT cls a)), rt := fun _ _ => False } (σ.set i (some (.ref a))) H) ∧
    (b = false → Wout cls d σ H)
section
variable {X : Cx} {pins : List (Addr × Obj)} {σ : L2.St} {H : Hp} {s : Shared}
theorem track {a : Addr} {oe : Obj} {cls : Value} (I : Inv X ((a, oe) :: pins) σ H s) (ho : ∀ p ∈ X.pn ++ pins, p.1 ≠ a) (n0 : X.s_0.heap.get? a = none) (z : Zc cls none oe) (d : ∃ vs : Array Value, oe.data = .fields vs) : Inv X pins σ (upd H a (ExT cls a)) s := by
  obtain ⟨g1, g2, g3, g4, g5⟩ := I.pin (a, oe) (List.mem_append.mpr (.inr List.mem_cons_self))
  have ne0 : ∀ b o, X.s_0.heap.get? b = some o → b ≠ a := fun b o e z => by
    rw [z, n0] at e
    cases e
  refine ⟨I.ok, I.os, I.bare, ⟨I.base.keep, I.base.slot, fun b o e n hb => ?_, I.base.there, fun b xs e => ?_, fun b o u e => ?_, fun b ps e => ?_⟩, I.loc, I.cell, ?_, fun x c e => ?_, fun p hp => ?_, ?_, I.len⟩
  · rw [upd_ne (ne0 b o e)]
    exact I.base.free b o e n hb
  · have q := I.base.tups b xs e
    rw [upd_ne (ne_of_none q g2)]
    exact q
  · have q := I.base.frzs b o u e
    rw [upd_ne (ne_of_none q g2)]
    exact q
  · obtain ⟨m, q⟩ := I.base.tbls b ps e
    exact ⟨m, by rw [upd_ne (ne_of_none q g2)]; exact q⟩
  · rw [upd_ne (fun z => g3 z.symm)]
    exact I.free
  · have hc : c ≠ a := fun z => by
      obtain ⟨v, o, e1, e2⟩ := I.cell x c e
      rw [z, g1] at e1
      cases e1
      exact g5 v e2
    rw [upd_ne hc]
    exact I.freeC x c e
  · obtain ⟨h1, h2, h3⟩ := I.pin p (by
      rcases List.mem_append.mp hp with q | q
      · exact List.mem_append.mpr (.inl q)
      · exact List.mem_append.mpr (.inr (List.mem_cons_of_mem _ q)))
    exact ⟨h1, by rw [upd_ne (ho p hp)]; exact h2, h3⟩
  · exact HOk.laidN I.hok (fun _ _ q => q) g2 (exT_ok g1 z d)
end
section
variable {X : Cx} {x n : Str} {c : Value} {i : Nat} {body suite : List Stmt} {b₀ : Stmt} {np pos pos' : Pos} {tb : WX → TS} {ts : Addr → Value → TS} {Wout : WX}
theorem ps_try_trk (hs : X.stack = X.env :: X.outer) (hfs : X.fs = frs X.outer) (hex : X.ex = []) (hf : X.env.frame = some X.env.locals) (hN : X.N.Nodup) (hi : X.N[i]? = some n) (hln : X.env.kindOf n = some .local) (hc : Names X x c) (tk : Takes X Wout)
    (hb : ∀ (W : WX) (pn : List (Addr × Obj)) (xe : Value → Shared → Prop), Takes (X.tr pn xe) W → PassesOwn (model X.prog X.w) X.A X.env xe → PSs (X.tr pn xe) body (tb W))
    (hsu : ∀ (a : Addr) (oe : Obj) (cls : Value) (pn : List (Addr × Obj)), Zc cls none oe → (∃ vs, oe.data = .fields vs) → PSs (X.suite a ((a, oe) :: pn)) (b₀ :: suite) (ts a cls)) :
    PS X (.Try body [.ExceptHandler (some (.Name x np)) (some n) (b₀ :: suite) pos'] [] [] pos) (fun D σ H => tb (wAsT X.K X.N.length c i ts Wout D) D σ H) := by
  refine ⟨fun pins s σ H D I h => ?_⟩
  have ok := I.ok
  have hfr : X.A.frames = some (X.env :: X.outer) := by rw [ok.frames, hs]
  have hloc : Loc X.env.scope n := .inl hln
  refine wpAny_Try_except ?_
  refine wpAny_mono ((hb (wAsT X.K X.N.length c i ts Wout D) (X.pn ++ pins) (fun e s₁ => wpAny (model X.prog X.w) X.A (noteFrame e X.env) (fun _ s₂ => wpAny (model X.prog X.w) X.A (setFlight e none) (fun _ s₃ =>
    wpAny (model X.prog X.w) X.A (handleBy e X.env [.ExceptHandler (some (.Name x np)) (some n) (b₀ :: suite) pos']) (SP X pins D) X.xe s₃) X.xe s₂) X.xe s₁) (fun u s' xx => ?_) PassesOwn.looking).run [] s σ H D (I.toTry _) h) (fun f s1 hsp => ?_) (fun e s1 he => he)
  · -- the catch
    obtain ⟨a, B, sI, pins', σ', H', cls, d, rfl, J', nb, up, sky, na, os, ag, hd0, b, hb1, hyes, hno⟩ := xx
    subst hd0
    have J : Inv X pins σ' H' sI := J'.ofTry ok
    have sky' : Sky B (X.env :: X.outer) a (Zc cls none) X.env.locals s'.heap := by rw [← hs]; exact sky
    show wpAny (model X.prog X.w) X.A (noteFrame (.ref a) X.env) _ _ _
    refine Sky.land Zc.steady hfr hf sky' fun h3 fl3 up3 => ?_
    have J3 : Inv X pins σ' H' { s' with heap := h3 } := J.landed nb fl3.1 (up.trans up3) os ag
    obtain ⟨oe3, vs3, he3, hz3, hd3⟩ := fl3.there
    have notFr : ∀ {h : Heap} {o : Obj} {vs : Array Value}, h.FunFrames B (X.env :: X.outer) → h.get? a = some o → o.data = .fields vs → a ∉ frs (X.env :: X.outer) := fun {h o vs} ff e dd hm => by
      obtain ⟨_, o', e', hnf⟩ := ff.mem hm
      rw [e] at e'; cases e'
      exact hnf _ dd
    have nfr := notFr fl3.2.2.1 he3 hd3
    have nL : a ≠ X.env.locals := fun z => nfr (List.mem_filterMap.mpr ⟨X.env, List.mem_cons_self, by rw [hf, z]⟩)
    have nF : a ∉ X.fs := fun hm => by
      obtain ⟨e, he, q⟩ := List.mem_filterMap.mp hm
      exact nfr (List.mem_filterMap.mpr ⟨e, List.mem_cons_of_mem _ he, q⟩)
    have nB : B.get? a = none := fl3.2.1
    have n0 : X.s_0.heap.get? a = none := by
      cases e : X.s_0.heap.get? a with
      | none => rfl
      | some o =>
        obtain ⟨o', e'⟩ := J.base.there a o e (by rw [hex]; exact fun z => nomatch z)
        have := nb a o' e' (by rw [hs]; exact nfr)
        rw [nB] at this
        cases this
    have npin : ∀ p ∈ X.pn ++ pins, p.1 ≠ a := fun p hp z => by
      obtain ⟨q1, q2, q3, q4, _⟩ := J.pin p hp
      rw [z] at q1
      have := nb a p.2 q1 (by rw [hs]; exact nfr)
      rw [nB] at this
      cases this
    have S3 := J3.suite he3 hd3 na nL nF
    refine wpAny_handleBy_cons (codeAny_handlers_test ?_) (by intro q; cases q)
    have LT : PySem.W.Looks (model X.prog X.w) h3 (typeOf (.ref a)) cls := fun A Q E s k q => wpAny_typeOf_ref (k _ _ he3) (by rw [hz3.1]; exact q)
    have LM := PySem.W.exm_one (M := model X.prog X.w) (J3.kIn) LT hb1
    have test : ∀ {Q : Value → Shared → Prop} {E : Value → Shared → Prop}, Q c { s' with heap := h3 } → wpAny (model X.prog X.w) (X.A.mark (some (.ref a))) (eval (.Name x np) X.env) Q E { s' with heap := h3 } := fun {Q E} q => by
      obtain ⟨hg, hdbg, hm | ⟨hm, hv, hnn⟩⟩ := hc
      · exact ld_glob (X := X.suite a ((a, oe3) :: (X.pn ++ pins))) S3 hg hm q hdbg
      · exact ld_blt (X := X.suite a ((a, oe3) :: (X.pn ++ pins))) S3 hg hm hv q hnn hdbg
    refine test (LM.here ?_)
    cases b with
    | true =>
      refine codeAny_handlers_suite_as ?_
      refine HandSPX.lands_againZ fl3 fun h4 fl4 up4 => ?_
      have J4 : Inv X pins σ' H' { s' with heap := h4 } := J.landed nb fl4.1 ((up.trans up3).trans up4) os ag
      obtain ⟨oe4, vs4, he4, hz4, hd4⟩ := fl4.there
      have S4 := J4.suite he4 hd4 na nL nF
      refine store_ok (X := X.suite a ((a, oe4) :: (X.pn ++ pins))) (v := .ref a) S4 hN hi hloc rfl (fun s5 S5 => ?_) (.inr hln)
      refine wpAny_mono ((hsu a oe4 cls (X.pn ++ pins) hz4 ⟨_, hd4⟩).run [] s5 _ H' _ S5 (hyes rfl J.len a na)) (fun f s6 hsp => ?_) (fun _ _ z => False.elim z)
      cases f with
      | next =>
        obtain ⟨σ6, H6, S6, q6⟩ := hsp
        have pa := S6.pin (a, oe4) (List.mem_append.mpr (.inl List.mem_cons_self))
        have J6 : Inv X ((a, oe4) :: pins) σ6 H6 s6 := ⟨ok, S6.os, S6.bare, S6.base, S6.loc, S6.cell, S6.free, S6.freeC, fun p hp => by
          rcases List.mem_append.mp hp with q | q
          · exact S6.pin p (List.mem_append_left _ (List.mem_cons_of_mem _ (List.mem_append_left _ q)))
          · rcases List.mem_cons.mp q with rfl | q
            · exact pa
            · exact S6.pin p (List.mem_append_left _ (List.mem_cons_of_mem _ (List.mem_append_right _ q))), S6.hok, S6.len⟩
        exact gone_ok J6 hN hi hln fun s7 J7 => ⟨_, _, track J7 npin n0 hz4 ⟨_, hd4⟩, q6 pa.2.1⟩
      | brk =>
        obtain ⟨σ6, H6, S6, q6⟩ := hsp
        exact False.elim q6
      | cont =>
        obtain ⟨σ6, H6, S6, q6⟩ := hsp
        exact False.elim q6
      | ret u =>
        obtain ⟨v6, σ6, H6, S6, r6, q6⟩ := hsp
        exact False.elim q6
    | false =>
      show wpAny _ X.A (handleBy (.ref a) X.env []) _ _ _
      refine wpAny_handleBy_nil ?_
      obtain ⟨k1, k2, k3, oe, vs, T, oT, ts', he, hz, hd, h1, hr⟩ := id fl3
      unfold PySem.passOn
      refine wpAny_bind (wpAny_field he hd h1 ?_)
      rw [if_neg (show ¬ ((Value.ref T == Value.none) = true) from by simp)]
      have fin : wpAny (model X.prog X.w) X.A (setFlight (.ref a) X.env.frame) (fun _ s4 => wpAny (model X.prog X.w) X.A (throw (.ref a) : Sem Flow) (SP X pins D) X.xe s4) X.xe { s' with heap := h3 } := by
        rw [hf]
        refine HandSPX.setFlight_upZ fl3 fun h4 hh4 up4 => wpAny_throw (tk _ _ ?_)
        exact ⟨a, B, sI, pins, σ', H', cls, none, rfl, J, nb, (up.trans up3).trans up4, .inr (.inr (by rw [hs]; exact hh4)), na, os, ag, hno rfl⟩
      first
        | exact wpAny_bind (wpAny_pure (wpAny_bind fin))
        | exact wpAny_bind fin
  · cases f with
    | next =>
      obtain ⟨σ', H', J', q⟩ := hsp
      exact wpAny_execs_nil ⟨σ', H', J'.ofTry ok, q⟩
    | brk =>
      obtain ⟨σ', H', J', q⟩ := hsp
      exact ⟨σ', H', J'.ofTry ok, q⟩
    | cont =>
      obtain ⟨σ', H', J', q⟩ := hsp
      exact ⟨σ', H', J'.ofTry ok, q⟩
    | ret u =>
      obtain ⟨v, σ', H', J', r, q⟩ := hsp
      exact ⟨v, σ', H', J'.ofTry ok, r, q⟩
end
end Mi.Tk
end
section
set_option linter.all false
set_option maxRecDepth 100000
set_option Elab.async false
set_option maxHeartbeats 2000000
/-! What the check of statements promises. -/
namespace Mi
open PySem PySem.Spec PyProof.Rows L2
def OkC (c : Cfg) (cl : Cl) (k : Nat) (ic : C) : Prop := ∀ (X : Cx) (sc : Scope) (W : WX) (st : Stmt), Gd X c sc cl k W → Fc X.prog X.w X.K X.mg X.base c cl k → Sx X sc → chkC c sc ic st = true → PS X st (tC X.K c W (ex cl c.tb ic))
def OkCs (c : Cfg) (cl : Cl) (k : Nat) (ics : Cs) : Prop := ∀ (X : Cx) (sc : Scope) (W : WX) (sts : List Stmt), Gd X c sc cl k W → Fc X.prog X.w X.K X.mg X.base c cl k → Sx X sc → chkCs c sc ics sts = true → PSs X sts (tC X.K c W (exs cl c.tb ics))
section
variable {X : Cx} {c : Cfg} {sc : Scope} {cl : Cl} {k : Nat} {W : WX} {st : Stmt}
theorem ps_unpC {is : List Nat} {e : E} {tg a : Expr} {pos : Pos} (g : Gd X c sc cl k W) (F : Fc X.prog X.w X.K X.mg X.base c cl k) (S : Sx X sc) (h1 : tgB c.N sc (.tp is) tg = true) (h2 : vTup a = none) (h3 : chkE c sc e a = true) :
    PS X (.Assign [tg] a pos) (tC X.K c W (ex cl c.tb (.unp is e))) := by
  have hN : X.N.Nodup := by rw [g.n]; exact g.nd
  have ht : ∃ ts k p, tg = .Tuple ts k p := by
    simp only [tgB] at h1
    cases hv : vTup tg with
    | none =>
      rw [hv] at h1
      cases h1
    | some ts =>
      obtain ⟨k, p, rfl⟩ := vTup_ok hv
      exact ⟨_, _, _, rfl⟩
  obtain ⟨ts, k', p', rfl⟩ := ht
  refine PS.imp (ps_asg (okE c cl k e X sc W a g F h3).1 (pg_tg g.calm hN g.n S.own h1) ?_ ?_ rfl) fun T σ H q => unp_imp q
  · show swapsWith a (some (.Tuple ts k' p')) pos.line X.env = pure false
    cases a <;> rfl
  · cases a <;> first | rfl | cases h2
theorem ps_setiC {i : Nat} {x : Str} {p p2 pos : Pos} {ek e : E} {kx a : Expr} (g : Gd X c sc cl k W) (F : Fc X.prog X.w X.K X.mg X.base c cl k) (S : Sx X sc) (h1 : c.N[i]? = some x) (h2 : visB sc x = true) (h3 : okN x = true) (h4 : notSlice kx = true) (h5 : chkE c sc ek kx = true) (h6 : chkE c sc e a = true) :
    PS X (.Assign [.Subscript (.Name x p) kx p2] a pos) (tC X.K c W (ex cl c.tb (.seti i ek e))) := by
  refine PS.imp (ps_asg (okE c cl k e X sc W a g F h6).1 (pg_sub (pe_var (i := i) (by rw [g.n]; exact h1) (by rw [g.sc]; exact visB_ok h2) (okN_ok h3).1 (okN_ok h3).2.1) (okE c cl k ek X sc W kx g F h5).1 (set_any g.hu1) ?_) ?_ ?_ rfl) fun T σ H q => seti_imp q
  · intro v
    cases kx <;> first | rfl | cases h4
  · show swapsWith a (some (.Subscript (.Name x p) kx p2)) pos.line X.env = pure false
    cases a <;> rfl
  · cases a <;> rfl
theorem ps_appC {i : Nat} {x : Str} {p ap cp pos : Pos} {e : E} {a : Expr} (g : Gd X c sc cl k W) (F : Fc X.prog X.w X.K X.mg X.base c cl k) (h1 : c.N[i]? = some x) (h2 : visB sc x = true) (h3 : okN x = true) (h4 : notStar a = true) (h5 : chkE c sc e a = true) (hl : (ap.endLine == cp.line) = true) :
    PS X (.Expr (.Call (.Attribute (.Name x p) "append" ap) [a] [] cp) pos) (tC X.K c W (ex cl c.tb (.app i e))) := by
  have hst : [a].all notStar = true := by simp [h4]
  refine PS.imp (ps_expr (pe_bm PySem.F.plainAttrs_list PySem.F.slot_list_append PySem.F.type_list_append mt_append (pe_var (i := i) (by rw [g.n]; exact h1) (by rw [g.sc]; exact visB_ok h2) (okN_ok h3).1 (okN_ok h3).2.1) (pa_cons (okE c cl k e X sc W a g F h5).1 pa_nil (starEach_of h4)) rfl ?_ hl (starEach_of h4) rfl) rfl) fun T σ H q => app_imp q
  rw [starEach_of h4]
  rfl
theorem ps_raisC {i : Nat} {x m : Str} {j : Nat} {p p2 p3 p4 : Pos} (g : Gd X c sc cl k W) (F : Fc X.prog X.w X.K X.mg X.base c cl k) (h1 : c.excs[i]? = some x) (h2 : glB sc x = true) (h3 : okN x = true) :
    PS X (.Raise (some (.Call (.Name x p) [.Constant (.str m) j p2] [] p3)) none p4) (tC X.K c W (ex cl c.tb (.rais i))) := by
  obtain ⟨bmB, B, newId, initId, e1, e2, e3, e4, e5, e6⟩ := F.excs i x h1
  refine PS.imp (ps_raise g.calm g.tk (pmk_own e1 e2 e3 e4 (raises_own e5 e6) (Gl_of g h2) (okN_ok h3).1)) fun T σ H q => ?_
  obtain ⟨g0, Z, pa, B0, H0, b, r, h⟩ := q
  have h : ErC X.K c W pa H0 b i := h
  have h4 := h σ H r.ex r.hk
  unfold xv at h4
  rw [List.getD_eq_getElem?_getD, h1] at h4
  exact h4
theorem RelS.unset {Z : (Addr → Prop) → Hp → Prop} {τ : Tbs} {pa : Pa τ} {B0 : Addr → Prop} {H0 H : Hp} {b : Nat} {σ : L2.St} {g : Gs} (r : RelS Z pa B0 H0 b H σ g) (j : Nat) : RelS Z pa B0 H0 b H (σ.set j none) (g.set j none) := by
  have at_ : ∀ {i : Nat} {a : Addr}, OwnAt (g.set j none) (σ.set j none) i a → OwnAt g σ i a := fun {i a} ⟨d, h1, h2⟩ => by
    have hij : j ≠ i := fun z => by
      subst z
      rw [List.getElem?_set] at h1
      simp at h1
    rw [List.getElem?_set_ne hij] at h1 h2
    exact ⟨d, h1, h2⟩
  have le : ∀ a, Bn B0 (g.set j none) (σ.set j none) a → Bn B0 g σ a := fun a h => by
    rcases h with h | ⟨i, h⟩
    · exact .inl h
    · exact .inr ⟨i, at_ h⟩
  have ne : ∀ {i : Nat} {x : D × Bool}, (g.set j none)[i]? = some (some x) → j ≠ i ∧ g[i]? = some (some x) := fun {i x} h => by
    have hij : j ≠ i := fun z => by
      subst z
      rw [List.getElem?_set] at h
      simp at h
    rw [List.getElem?_set_ne hij] at h
    exact ⟨hij, h⟩
  refine ⟨r.ent, r.hk, r.ex, by rw [List.length_set, List.length_set]; exact r.len, fun i d h => ?_, fun i d h => ?_, fun i k a h1 h2 => r.inj i k a (at_ h1) (at_ h2), r.zs, r.zs _ _ _ _ r.z (Keeps.less le)⟩
  · obtain ⟨hij, h⟩ := ne h
    obtain ⟨v, h1, h2⟩ := r.val i d h
    exact ⟨v, by rw [List.getElem?_set_ne hij]; exact h1, h2.keeps (Keeps.less le)⟩
  · obtain ⟨hij, h⟩ := ne h
    obtain ⟨a, h1, h2, h3⟩ := r.own i d h
    exact ⟨a, by rw [List.getElem?_set_ne hij]; exact h1, h2, h3.keeps (Keeps.less le) fun u e _ => e⟩
theorem ps_tryXC {e : E} {ws : List Nat} {i j : Nat} {a : Expr} {x n y z : Str} {p1 p2 p3 p4 p5 p6 p7 : Pos} {nn : Nat} (hnn : nn = c.excs.length) (g : Gd X c sc cl k W) (F : Fc X.prog X.w X.K X.mg X.base c cl k) (S : Sx X sc) (h1 : z = n) (h2 : c.N[j]? = some n) (h3 : c.N[i]? = some y) (h4 : okN n = true) (h5 : locB sc n = true) (h6 : locB sc y = true)
    (h7 : exmOf c sc x ws = true) (h8 : glB sc x = true) (h9 : okN x = true) (h10 : notComp a = true) (h11 : chkE c sc e a = true) :
    PS X (.Try [.Expr a p1] [.ExceptHandler (some (.Name x p2)) (some n) [.Assign [.Name y p3] (.Name z p4) p5] p6] [] [] p7) (tC X.K c W (ex cl c.tb (.tryX nn e ws i j))) := by
  subst h1
  have h2c := h2
  have hN : X.N.Nodup := by rw [g.n]; exact g.nd
  have lcl : ∀ {w : Str}, locB sc w = true → X.env.scope.names.lookup w = some .local := fun {w} hw => by
    unfold locB at hw
    rw [g.sc]
    split at hw
    · rename_i q
      exact q
    · cases hw
  obtain ⟨q, hq, hqx⟩ := List.any_eq_true.mp h7
  simp only [Bool.and_eq_true, decide_eq_true_eq] at hqx
  obtain ⟨hx, rfl⟩ := hqx
  obtain ⟨bmB, B, newId, initId, e1, e2, e3, e4, e5, e6⟩ := F.excs q.1 x hx
  have hne : j ≠ i ∨ j = i := by omega
  have hnm : Names X x (.ref (He.ga X.K x)) := ⟨Gl_of g h8, (okN_ok h9).1, .inl e3⟩
  have xvq : xv X.K c q.1 = .ref (He.ga X.K x) := by
    show Value.ref (He.ga X.K (c.excs.getD q.1 Str.empty)) = _
    rw [List.getD_eq_getElem?_getD, hx]
    rfl
  refine PS.imp (Tk.ps_try_trk (X := X) (c := .ref (He.ga X.K x)) (i := j) (Wout := W) (tb := fun W D σ H => tDrop (tE X.K c W (ev cl c.tb e)) D σ H) (ts := fun a cls D σ H => tAsg (tVar j) (gName i) D σ H) S.trx.1 S.trx.2.1 S.trx.2.2.1 S.trx.2.2.2 hN (by rw [g.n]; exact h2) (by
      show X.env.scope.names.lookup z = some .local
      exact lcl h5) hnm g.tk (fun W' pn xe tk po => ?_) (fun ad oe cls pn hz hd => ?_)) fun T σ H hq2 => ?_
  · have gd : Gd (X.tr pn xe) c sc cl k W' := ⟨g.n, g.nd, g.sc, g.calm, g.room, g.gu, tk, fun z => ⟨(g.lam z).at_, (g.lam z).room⟩⟩
    have F' : Fc (X.tr pn xe).prog (X.tr pn xe).w (X.tr pn xe).K (X.tr pn xe).mg (X.tr pn xe).base c cl k := F
    exact pss_one (ps_expr (okE c cl k e (X.tr pn xe) sc W' a gd F' h11).1 (swaps_of h10))
  · exact pss_one (ps_set (X := X.suite ad ((ad, oe) :: pn)) hN (by show X.N[i]? = some y; rw [g.n]; exact h3) (.inl (lcl h6)) (pe_var (X := X.suite ad ((ad, oe) :: pn)) (i := j) (by show X.N[j]? = some z; rw [g.n]; exact h2) (.inl (lcl h5)) (okN_ok h4).1 (okN_ok h4).2.1) rfl (.inr (lcl h6)))
  · obtain ⟨g0, Z, pa, B0, H0, b, r, h⟩ := hq2
    have h' := (Tr.wp_bind _ _).mp ((Tr.wp_catchE _ _).mp h)
    refine ⟨vis e.ment g0, pa, Bm B0 e.ment g0 σ, b, r.okk, Tr.wp_mono (fun b1 d h2 v H1 x kk rv => ?_) (fun b1 m h2 => ?_) _ _ h'⟩
    · exact (show ∀ σ' H', RelS Z pa B0 H0 b1 H' σ' g0 → T.nx σ' H' from h2) _ _ (r.step x kk)
    · intro H' xx kk
      by_cases hlt : m < nn
      case neg =>
        rw [if_neg hlt] at h2
        exact h2.elim
      rw [if_pos hlt] at h2
      have hb : PySem.W.exmOne X.K (xv X.K c m) (.ref (He.ga X.K x)) = some (q.2.contains m) := by
        have hf := List.all_eq_true.mp (F.exm _ hq) m (List.mem_range.mpr (by omega))
        rw [xvq] at hf
        exact of_decide_eq_true hf
      refine ⟨rfl, _, hb, fun ht hlen ad had => ?_, fun hf => ?_⟩
      · rw [ht] at h2
        have h3' : ∀ σ' H', RelS Z pa B0 H0 b1 H' σ' ((g0.set i (some (.exc m, false))).set j none) → T.nx σ' H' := h2
        have hjl : j < σ.length := by
          rw [hlen, g.n]
          exact (List.getElem?_eq_some_iff.mp h2c).1
        refine ⟨.ref ad, List.getElem?_set_self hjl, fun had2 => h3' _ _ ?_⟩
        have r0 := r.step xx kk
        have r1 := r0.step (Ex.new (o := Tk.ExT (xv X.K c m) ad) had) (kk.new had)
        have hrep : ∀ B, Rep pa B (upd H' ad (Tk.ExT (xv X.K c m) ad)) (.ref ad) (.exc m) := fun B => by
          refine .exc (C := He.ga X.K (c.excs.getD m Str.empty)) ?_ upd_same (.inl rfl)
          show (c.excs[m]?).map (He.ga X.K) = _
          have hm : m < c.excs.length := by omega
          rw [List.getD_eq_getElem?_getD, List.getElem?_eq_getElem hm]
          rfl
        have r2 := (r1.setv (i := j) (hrep _)).setv (i := i) (hrep _)
        have r3 := r2.unset j
        have eg : ((g0.set j (some (.exc m, false))).set i (some (.exc m, false))).set j none = (g0.set i (some (.exc m, false))).set j none := by
          by_cases hij : j = i
          · subst hij
            simp only [List.set_set]
          · rw [List.set_comm _ _ hij, List.set_set]
        rw [eg] at r3
        exact r3
      · rw [hf] at h2
        exact (show ErC X.K c W pa H0 b1 m from h2) σ H' (r.ex.trans xx) kk
theorem plain_brk (h : (plainS st == 1) = true) : ∃ p, st = .Break p := by
  cases st <;> first | exact ⟨_, rfl⟩ | (rename_i v p; cases v <;> cases h) | cases h
theorem plain_cont (h : (plainS st == 2) = true) : ∃ p, st = .Continue p := by
  cases st <;> first | exact ⟨_, rfl⟩ | (rename_i v p; cases v <;> cases h) | cases h
theorem plain_pas (h : (plainS st == 3) = true) : ∃ p, st = .Pass p := by
  cases st <;> first | exact ⟨_, rfl⟩ | (rename_i v p; cases v <;> cases h) | cases h
theorem plain_ret (h : (plainS st == 4) = true) : ∃ p, st = .Return none p := by
  cases st <;> first | (rename_i v p; cases v <;> first | exact ⟨_, rfl⟩ | cases h) | cases h
mutual
theorem okC (c : Cfg) (cl : Cl) (k : Nat) : ∀ ic : C, OkC c cl k ic
  | .asg i e => fun X sc W st g F S h => by
    simp only [chkC] at h
    split at h
    · rename_i t a hv
      obtain ⟨p, rfl⟩ := vAsg_ok hv
      exact ps_asgC g F S h
    · cases h
  | .par is es j e => fun X sc W st g F S h => by
    simp only [chkC] at h
    split at h
    · rename_i t a hv
      obtain ⟨p, rfl⟩ := vAsg_ok hv
      exact ps_parC g F S h
    · cases h
  | .parF is es j e => fun X sc W st g F S h => by
    simp only [chkC] at h
    split at h
    · rename_i t a hv
      obtain ⟨p, rfl⟩ := vAsg_ok hv
      exact ps_parFC g F S h
    · cases h
  | .unp is e => fun X sc W st g F S h => by
    simp only [chkC] at h
    split at h
    · rename_i t a hv
      obtain ⟨p, rfl⟩ := vAsg_ok hv
      simp only [Bool.and_eq_true, decide_eq_true_eq] at h
      exact ps_unpC g F S h.1.1 h.1.2 h.2
    · cases h
  | .seti i ek e => fun X sc W st g F S h => by
    simp only [chkC] at h
    split at h
    · rename_i t a hv
      obtain ⟨p, rfl⟩ := vAsg_ok hv
      simp only [Bool.and_eq_true] at h
      obtain ⟨h1, h2⟩ := h
      split at h1
      · rename_i o kx ho
        obtain ⟨p2, rfl⟩ := vSub_ok ho
        simp only [Bool.and_eq_true] at h1
        obtain ⟨h3, h4, h5⟩ := h1
        split at h3
        · rename_i x hx
          obtain ⟨p3, rfl⟩ := vName_ok hx
          simp only [Bool.and_eq_true, decide_eq_true_eq] at h3
          exact ps_setiC g F S h3.1 h3.2.1 h3.2.2 h4 h5 h2
        · cases h3
      · cases h1
    · cases h
  | .app i e => fun X sc W st g F S h => by
    simp only [chkC] at h
    split at h
    · rename_i a hv
      obtain ⟨p, rfl⟩ := vExprS_ok hv
      split at h
      · rename_i o m x hm
        obtain ⟨ap, cp, rfl, hl⟩ := vMeth_ok hm
        simp only [Bool.and_eq_true, decide_eq_true_eq] at h
        obtain ⟨⟨rfl, h1⟩, h2, h3⟩ := h
        split at h2
        · rename_i n hn
          obtain ⟨p3, rfl⟩ := vName_ok hn
          simp only [Bool.and_eq_true, decide_eq_true_eq] at h2
          exact ps_appC g F h2.1 h2.2.1 h2.2.2 h1 h3 hl
        · cases h2
      · cases h
    · cases h
  | .expr e => fun X sc W st g F S h => by
    simp only [chkC] at h
    split at h
    · rename_i a hv
      obtain ⟨p, rfl⟩ := vExprS_ok hv
      simp only [Bool.and_eq_true] at h
      exact PS.imp (ps_expr (okE c cl k e X sc W a g F h.2).1 (swaps_of h.1)) fun T σ H q => expr_imp q
    · cases h
  | .ife t a b => fun X sc W st g F S h => by
    simp only [chkC] at h
    split at h
    · rename_i x p q hv
      obtain ⟨pp, rfl⟩ := vIfS_ok hv
      simp only [Bool.and_eq_true] at h
      exact PS.imp (ps_if ((okE c cl k t X sc W x g F h.1.1).2.1 h.1.2) (okCs c cl k a X sc W p g F S h.2.1) (okCs c cl k b X sc W q g F S h.2.2)) fun T σ H q => ife_imp q
    · cases h
  | .for_ t s b => fun X sc W st g F S h => by
    simp only [chkC] at h
    split at h
    · rename_i x i p hv
      obtain ⟨pp, rfl⟩ := vFor_ok hv
      simp only [Bool.and_eq_true] at h
      have hN : X.N.Nodup := by rw [g.n]; exact g.nd
      exact PS.imp (ps_for S.po g.calm (okS c cl k s X sc W x i g F h.2.1) (pg_tg g.calm hN g.n S.own h.1.1) (okCs c cl k b X sc W p g F S h.2.2) (folded_of h.1.2)) fun T σ H q => for_imp q
    · cases h
  | .forK t j b => fun X sc W st g F S h => by
    simp only [chkC] at h
    split at h
    · rename_i x i p hv
      obtain ⟨pp, rfl⟩ := vFor_ok hv
      simp only [Bool.and_eq_true] at h
      have hN : X.N.Nodup := by rw [g.n]; exact g.nd
      obtain ⟨⟨h1, h2⟩, h3, h4⟩ := h
      split at h3
      · rename_i n hn
        obtain ⟨pn, rfl⟩ := vName_ok hn
        simp only [Bool.and_eq_true, decide_eq_true_eq] at h3
        exact PS.imp (ps_forK (ps_for S.po g.calm (pi_keys (pe_var (i := j) (by rw [g.n]; exact h3.1) (by rw [g.sc]; exact visB_ok h3.2.1) (okN_ok h3.2.2).1 (okN_ok h3.2.2).2.1)) (pg_tg g.calm hN g.n S.own h1) (okCs c cl k b X sc W p g F S h4) (folded_of h2))) fun T σ H q => forK_imp q
      · cases h3
    · cases h
  | .whl t b => fun X sc W st g F S h => by
    simp only [chkC] at h
    split at h
    · rename_i x p hv
      obtain ⟨pp, rfl⟩ := vWhile_ok hv
      simp only [Bool.and_eq_true] at h
      exact PS.imp (ps_while S.po ((okE c cl k t X sc W x g F h.1.1).2.1 h.1.2) (okCs c cl k b X sc W p g F S h.2)) fun T σ H q => whl_imp q
    · cases h
  | .ret e => fun X sc W st g F S h => by
    simp only [chkC] at h
    split at h
    · rename_i a hv
      obtain ⟨p, rfl⟩ := vRet_ok hv
      exact PS.imp (ps_ret (okE c cl k e X sc W a g F h).1) fun T σ H q => ret_imp q
    · cases h
  | .retN => fun X sc W st g F S h => by
    obtain ⟨p, rfl⟩ := plain_ret (show (plainS st == 4) = true from h)
    exact PS.imp ps_retN fun T σ H ⟨g0, Z, pa, B0, H0, b, r, h⟩ => (show ∀ v H', Ex pa H0 H' → Hk pa b H' → Rep pa B0 H' v .non → T.rt v H' from h) .non H r.ex r.hk .non
  | .brk => fun X sc W st g F S h => by
    obtain ⟨p, rfl⟩ := plain_brk (show (plainS st == 1) = true from h)
    exact PS.imp ps_break fun T σ H ⟨g0, Z, pa, B0, H0, b, r, h⟩ => (show ∀ σ' H', RelS Z pa B0 H0 b H' σ' g0 → T.bk σ' H' from h) σ H r
  | .cont => fun X sc W st g F S h => by
    obtain ⟨p, rfl⟩ := plain_cont (show (plainS st == 2) = true from h)
    exact PS.imp ps_continue fun T σ H ⟨g0, Z, pa, B0, H0, b, r, h⟩ => (show ∀ σ' H', RelS Z pa B0 H0 b H' σ' g0 → T.ct σ' H' from h) σ H r
  | .pas => fun X sc W st g F S h => by
    obtain ⟨p, rfl⟩ := plain_pas (show (plainS st == 3) = true from h)
    exact PS.imp ps_pass fun T σ H ⟨g0, Z, pa, B0, H0, b, r, h⟩ => (show ∀ σ' H', RelS Z pa B0 H0 b H' σ' g0 → T.nx σ' H' from h) σ H r
  | .rais i => fun X sc W st g F S h => by
    simp only [chkC] at h
    split at h
    · rename_i x hv
      obtain ⟨p, m, j, p2, p3, p4, rfl⟩ := vRais_ok hv
      simp only [Bool.and_eq_true, decide_eq_true_eq] at h
      exact ps_raisC g F h.1 h.2.1 h.2.2
    · cases h
  | .tryX m e ws i j => fun X sc W st g F S h => by
    simp only [chkC] at h
    split at h
    · rename_i a x n y z hv
      obtain ⟨p1, p2, p3, p4, p5, p6, p7, rfl⟩ := vTryX_ok hv
      simp only [Bool.and_eq_true, decide_eq_true_eq] at h
      obtain ⟨⟨⟨⟨h1, h0⟩, h2⟩, h3, h4, h5, h6⟩, ⟨h7, h8, h9⟩, h10, h11⟩ := h
      exact ps_tryXC h0 g F S h1 h2 h3 h4 h5 h6 h7 h8 h9 h10 h11
    · cases h
  | .bad => fun X sc W st g F S h => ⟨fun pins s σ H D I ⟨_, _, _, _, _, _, _, h⟩ => h.elim⟩
theorem okCs (c : Cfg) (cl : Cl) (k : Nat) : ∀ ics : Cs, OkCs c cl k ics
  | .nil => fun X sc W sts g F S h => by
    cases sts with
    | nil => exact PSs.imp pss_nil fun T σ H ⟨g0, Z, pa, B0, H0, b, r, h⟩ => (show ∀ σ' H', RelS Z pa B0 H0 b H' σ' g0 → T.nx σ' H' from h) σ H r
    | cons _ _ => cases h
  | .cons i is => fun X sc W sts g F S h => by
    cases sts with
    | nil => cases h
    | cons s ss =>
      simp only [chkCs, Bool.and_eq_true] at h
      refine PSs.imp (pss_cons (okC c cl k i X sc W s g F S h.1) (okCs c cl k is X sc W ss g F S h.2)) fun T σ H ⟨g0, Z, pa, B0, H0, b, r, h⟩ => ?_
      have h1 := (Tr.wp_bind _ _).mp h
      refine ⟨g0, Z, pa, B0, H0, b, r, Tr.wp_mono (fun b1 fl h2 => ?_) (fun _ _ z => z) _ _ h1⟩
      cases fl with
      | next g1 => exact fun σ' H' q => ⟨g1, Z, pa, B0, H0, b1, q, h2⟩
      | ret d => exact h2
      | brk g1 => exact h2
      | cont g1 => exact h2
end
end
end Mi
end
section
set_option linter.all false
set_option maxRecDepth 100000
set_option Elab.async false
set_option maxHeartbeats 2000000
/-! Defs. -/
namespace Mi
open PySem PySem.Spec PyProof.Rows L2
/-- a def of the text, by its body, where no guard stands -/
theorem fnG_of {P : Program} {w : World} {K : PySem.W.Frag} {mg : Str → Option Value} {base : Heap} {k : Nat} {f : Addr} {name qual : Str} {params : Arguments} {body : List Stmt} {scope : Scope} {dV kV doc pm cdv ct oc : Value} {an od : Option Addr}
    {osl : Array (Option Value)} {N ps : List Str} {sp : Sp} {r : Bool} (lk : K.lookup f = some ⟨oc, od, .func (PySem.W.fnOf name qual params body scope dV kV doc pm an cdv ct), osl⟩) (hcd : PySem.W.codeIn K cdv qual = true) (S : FnScope N ps scope)
    (len : ∀ vs H Q E, sp vs H Q E → vs.length = ps.length)
    (hbody : ∀ (A : Around) (outer : List PySem.Env) (s : Shared) (H : Hp) (vs : List V) (Q : VK) (E : XK), Room k (A.deeper (envOfC qual scope s.heap.objs.size f cdv)) → (r = true → A.guards = some []) → sp vs H Q E →
      ∃ t, PSs (cxOf (L2.CX P w) P w K mg base N qual scope f cdv A outer s H E) body t ∧ t { nx := fun _ H' => Q .non H', rt := Q } (L2.start N vs) H) :
    FnG r P w K mg base (k + 1) f (PySem.W.fnOf name qual params body scope dV kV doc pm an cdv ct) ps sp := by
  refine ⟨len, fun A outer s H args us vs Q E hr hgu e0 hb r hsp => ?_⟩
  have hl := len _ _ _ _ hsp
  have KX : K.In s.heap := e0.mod.kin.keeps fun b o e => (e0.bs b o e).1
  have lim : s.heap.NoLimit := e0.mod.nolimit.keeps fun b o e => (e0.bs b o e).1
  have hkind : ∀ y ∈ ps.zip us, scope.names.lookup y.1 = some .local ∨ (scope.names.lookup y.1 = some .cell ∧ ((cellsFrom (s.heap.objs.size + 1) scope.names []).lookup y.1).isSome = true) := fun ⟨n, v⟩ hy => by
    rcases S.par n (List.of_mem_zip hy).1 with q | q
    · exact .inl q
    · exact .inr ⟨q, PySem.W.cellsFrom_some _ _ _ (.inl q)⟩
  refine codeAny_call_function hr.depth (KX _ _ lk) rfl S.co S.gen rfl (PySem.W.codeRec_of KX hcd) (hb _ _ _ _ ?_)
  refine wpAny_newFunctionEnv_cells S.kind hkind fun env he s1 x => ?_
  subst he
  refine ⟨lim.keeps x.toInCall.keep, codeAny_func ?_⟩
  obtain ⟨t, ht, hq⟩ := hbody A outer s H vs Q E (hr.deeper _) hgu hsp
  have I : L2.Inv (cxOf (L2.CX P w) P w K mg base N qual scope f cdv A outer s H E) [] (L2.start N vs) H s1 := inv_start S hr.hd e0 hl r x
  refine wpAny_mono (ht.run [] s1 (L2.start N vs) H _ I hq) (fun fl s' hs => ?_) fun e s' hs => hs
  have fin : ∀ {σ' : L2.St} {H' : Hp} {v : V} {u : Value}, L2.Inv (cxOf (L2.CX P w) P w K mg base N qual scope f cdv A outer s H E) [] σ' H' s' → RelV v u → Q v H' → CE outer P w H s Q u s' :=
    fun {σ' H' v u} J rv q => ⟨v, H', J.os, J.bare, J.base, J.hok, rv, q⟩
  cases fl with
  | ret u =>
    obtain ⟨v, σ', H', J, rv, q⟩ := hs
    exact fin J rv q
  | next =>
    obtain ⟨σ', H', J, q⟩ := hs
    exact fin (v := V.non) (u := Value.none) J rfl q
  | brk =>
    obtain ⟨_, _, _, q⟩ := hs
    exact False.elim q
  | cont =>
    obtain ⟨_, _, _, q⟩ := hs
    exact False.elim q
/-! ### a def of the evaluator -/
theorem start_len {n : Nat} {ds : List D} (h : ds.length ≤ n) : (Mi.start n ds).length = n := by
  unfold Mi.start
  rw [List.length_append, List.length_map, List.length_replicate]
  omega
theorem startV_len {N : List Str} {vs : List V} (h : vs.length ≤ N.length) : (L2.start N vs).length = N.length := by
  unfold L2.start
  rw [List.length_append, List.length_map, List.length_replicate]
  omega
theorem start_get {n i : Nat} {ds : List D} {d : D} {o : Bool} (h : (Mi.start n ds)[i]? = some (some (d, o))) : ds[i]? = some d ∧ o = false := by
  unfold Mi.start at h
  by_cases hl : i < ds.length
  · rw [List.getElem?_append_left (by rw [List.length_map]; exact hl), List.getElem?_map, List.getElem?_eq_getElem hl] at h
    cases h
    exact ⟨List.getElem?_eq_getElem hl, rfl⟩
  · rw [List.getElem?_append_right (by rw [List.length_map]; omega)] at h
    obtain ⟨z, e⟩ := List.getElem?_eq_some_iff.mp h
    rw [List.getElem_replicate] at e
    cases e
theorem startV_get {N : List Str} {i : Nat} {vs : List V} {v : V} (h : vs[i]? = some v) : (L2.start N vs)[i]? = some (some v) := by
  have hl : i < vs.length := by
    obtain ⟨z, _⟩ := List.getElem?_eq_some_iff.mp h
    exact z
  unfold L2.start
  rw [List.getElem?_append_left (by rw [List.length_map]; exact hl), List.getElem?_map, h]
  rfl
/-- the slots at an entry -/
theorem RelS.start {τ : Tbs} {pa : Pa τ} {B : Addr → Prop} {b n : Nat} {H : Hp} {N : List Str} {vs : List V} {ds : List D} (rm : Rm pa B b H) (r : RepL pa B H vs ds) (hn : ds.length ≤ n) (hN : n = N.length) :
    RelS (fun _ _ => True) pa B H b H (L2.start N vs) (Mi.start n ds) := by
  have no : ∀ i a, ¬ OwnAt (Mi.start n ds) (L2.start N vs) i a := fun i a ⟨d, h, _⟩ => by
    have := (start_get h).2
    cases this
  have hB : Bn B (Mi.start n ds) (L2.start N vs) = B := by
    funext a
    apply propext
    exact ⟨fun h => h.elim id fun ⟨i, h⟩ => (no i a h).elim, .inl⟩
  refine ⟨⟨rm.bp, rm.bd, ?_, ?_⟩, rm.hk, Ex.refl, ?_, fun i d h => ?_, fun i d h => ?_, fun i j a h _ => (no i a h).elim, fun _ _ _ _ _ _ => True.intro, True.intro⟩
  · obtain ⟨xs, e⟩ := rm.hk.at
    exact ⟨_, e, by intro ps w; cases w⟩
  · obtain ⟨_, ns, _, _, _, e, _⟩ := rm.hk
    exact ⟨_, e, by intro ps w; cases w⟩
  · rw [start_len hn, startV_len (by rw [r.length, ← hN]; exact hn), hN]
    exact Nat.le_refl _
  · rw [hB]
    obtain ⟨v, h1, h2⟩ := r.get (start_get h).1
    exact ⟨v, startV_get h1, h2⟩
  · have := (start_get h).2
    cases this
/-- what is known of a def -/
structure DefOk (K : PySem.W.Frag) (mg : Str → Option Value) (c : Cfg) (ix : Nat) (N : List Str) (d : Df) (x : Str) : Prop where
  fn : ∃ (f : Addr) (name qual : Str) (params : Arguments) (body : List Stmt) (scope : Scope) (dV kV doc pm cdv ct oc : Value) (an od : Option Addr) (osl : Array (Option Value)) (ps : List Str),
    K.lookup f = some ⟨oc, od, .func (PySem.W.fnOf name qual params body scope dV kV doc pm an cdv ct), osl⟩ ∧ PySem.W.codeIn K cdv qual = true ∧ FnScope N ps scope ∧ mg x = some (.ref f) ∧ PySem.W.keepIn K (.ref f) = true ∧
    Binds K (PySem.W.fnOf name qual params body scope dV kV doc pm an cdv ct) ps [] ∧ ps.length = d.ps ∧ KwB c ix (PySem.W.fnOf name qual params body scope dV kV doc pm an cdv ct) ps ∧ chkCs { c with N := N, rp := c.rpf ix, dn := c.tf.contains x } scope d.body body = true ∧
    (x ∈ c.tf → cdv = .ref (He.cT K (x, none)).1 ∧ qual = x)
  n : d.n = N.length
  ps : d.ps ≤ N.length
/-- the same module, other names -/
theorem Fc.names {P : Program} {w : World} {K : PySem.W.Frag} {mg : Str → Option Value} {base : Heap} {c : Cfg} {cl : Cl} {k : Nat} (F : Fc P w K mg base c cl k) (N : List Str) : Fc P w K mg base { c with N := N, dn := false } cl k := ⟨F.defs, F.cons, F.tabs, F.free, F.excs, F.key, F.lam, F.isx, F.exm⟩
theorem Fc.namesR {P : Program} {w : World} {K : PySem.W.Frag} {mg : Str → Option Value} {base : Heap} {c : Cfg} {cl : Cl} {k : Nat} (F : Fc P w K mg base c cl k) (N : List Str) (r z : Bool) : Fc P w K mg base { c with N := N, rp := r, dn := z } cl k := ⟨F.defs, F.cons, F.tabs, F.free, F.excs, F.key, F.lam, F.isx, F.exm⟩
/-- the defs with a lambda: their tables -/
structure TbOk (K : PySem.W.Frag) (mg : Str → Option Value) (base : Heap) (c : Cfg) : Prop where
  tb : ∀ x ∈ c.tf, LamX.TabB base mg (He.cT K (x, none)).1 (He.cT K (x, none)).2
  nd : (c.tf.map fun x => (He.cT K (x, none)).2).Nodup
theorem nodup_inj {α β : Type} {f : α → β} : ∀ {l : List α}, (l.map f).Nodup → ∀ {a b : α}, a ∈ l → b ∈ l → f a = f b → a = b
  | [], _, a, b, ha, _, _ => by cases ha
  | x :: l, h, a, b, ha, hb, e => by
    rw [List.map_cons, List.nodup_cons] at h
    rcases List.mem_cons.mp ha with z | z
    · rcases List.mem_cons.mp hb with y | y
      · rw [z, y]
      · exact (h.1 (List.mem_map.mpr ⟨b, y, by rw [← e, z]⟩)).elim
    · rcases List.mem_cons.mp hb with y | y
      · exact (h.1 (List.mem_map.mpr ⟨a, z, by rw [e, y]⟩)).elim
      · exact nodup_inj h.2 z y e
theorem df_ok {P : Program} {w : World} {K : PySem.W.Frag} {mg : Str → Option Value} {base : Heap} {c : Cfg} {k j : Nat} {dfs : List Df} {pen f : Nat} {N : List Str} {d : Df} {x : Str} (F : Fc P w K mg base c (Mi.call dfs c.tb pen k) j) (T : TbOk K mg base c) (D : DefOk K mg c f N d x) (hf : f ≠ pen) (hd : dfs[f]? = some d) :
    ∃ fa fd ps, mg x = some (.ref fa) ∧ PySem.W.keepIn K (.ref fa) = true ∧ Binds K fd ps [] ∧ ps.length = d.ps ∧ KwB c f fd ps ∧ FnG (c.rpf f) P w K mg base (j + 3) fa fd ps (spC K c (Mi.call dfs c.tb pen (k + 1)) f d.ps) := by
  obtain ⟨fa, name, qual, params, body, scope, dV, kV, doc, pm, cdv, ct, oc, an, od, osl, ps, h1, h2, h3, h4, h5, h6, h7, hkw, h8, h9⟩ := D.fn
  refine ⟨fa, _, ps, h4, h5, h6, h7, hkw, fnG_of h1 h2 h3 (fun vs H Q E h => by rw [h.1, h7]) fun A outer s H vs Q E hr hgu hsp => ?_⟩
  have tk : Takes (cxOf (L2.CX P w) P w K mg base N qual scope fa cdv A outer s H E) (fun cls d _ H => E cls d H) := takes_of rfl rfl rfl rfl
  have gd : Gd (cxOf (L2.CX P w) P w K mg base N qual scope fa cdv A outer s H E) { c with N := N, rp := c.rpf f, dn := c.tf.contains x } scope (Mi.call dfs c.tb pen k) j (fun cls d _ H => E cls d H) := by
    refine ⟨rfl, h3.nd, rfl, rfl, hr.mono (by omega), hgu, tk, fun z => ?_⟩
    have hx : x ∈ c.tf := List.contains_iff_mem.mp z
    obtain ⟨rfl, rfl⟩ := h9 hx
    refine ⟨⟨_, _, rfl, T.tb _ hx, List.mem_map.mpr ⟨_, hx, rfl⟩, fun p hp e => ?_⟩, hr⟩
    obtain ⟨y, hy, rfl⟩ := List.mem_map.mp hp
    rw [nodup_inj T.nd hy hx e]
    rfl
  have sx : Sx (cxOf (L2.CX P w) P w K mg base N qual scope fa cdv A outer s H E) scope := ⟨⟨fun x h => h, fun x h => ⟨h, rfl⟩⟩, passes_of rfl, h3.kind, rfl, rfl, rfl, rfl⟩
  refine ⟨_, okCs { c with N := N, rp := c.rpf f, dn := c.tf.contains x } (Mi.call dfs c.tb pen k) j d.body _ scope _ body gd (F.namesR N _ _) sx h8, ?_⟩
  obtain ⟨hl, pa, B, b, ds, rm, rl, hw⟩ := hsp
  have hdl : ds.length = d.ps := by rw [← rl.length, hl]
  have e : Mi.call dfs c.tb pen (k + 1) f ds = (exs (Mi.call dfs c.tb pen k) c.tb d.body (Mi.start d.n ds)).bind Mi.fin := by
    show (if f = pen then _ else match dfs[f]? with | some d => (if ds.length = d.ps then _ else _) | none => _) = _
    rw [if_neg hf, hd]
    exact if_pos hdl
  rw [e] at hw
  have hw1 := (Tr.wp_bind _ _).mp hw
  refine ⟨Mi.start d.n ds, fun _ _ => True, pa, B, H, b, RelS.start rm rl (by rw [hdl, D.n]; exact D.ps) D.n, Tr.wp_mono (fun b1 fl h => ?_) (fun b1 i h => ?_) _ _ hw1⟩
  · cases fl with
    | next g => exact fun σ' H' r => (show Po pa B H Q b1 .non from h) .non H' r.ex r.hk .non
    | ret d => exact fun v H' x kk r => (show Po pa B H Q b1 d from h) v H' x kk r
    | brk g => exact h.elim
    | cont g => exact h.elim
  · exact fun σ' H' x kk => h H' x kk
/-- nothing comes of a def that is never reached -/
theorem FnG.never {r : Bool} {P : Program} {w : World} {K : PySem.W.Frag} {mg : Str → Option Value} {base : Heap} {c : Cfg} {cl : Cl} {k f n : Nat} {fa : Addr} {fd : FuncData} {ps : List Str} (hl : ps.length = n) (h : ∀ ds, cl f ds = .stuck) : FnG r P w K mg base k fa fd ps (spC K c cl f n) :=
  ⟨fun vs H Q E q => by rw [q.1, hl], fun A outer s H args us vs Q E _ _ _ _ _ ⟨_, pa, B, b, ds, _, _, q⟩ => by
    rw [h ds] at q
    exact q.elim⟩
/-- the module at each level of calls; the pen's def by its own proof -/
theorem fc_all {P : Program} {w : World} {K : PySem.W.Frag} {mg : Str → Option Value} {base : Heap} {c : Cfg} {dfs : List Df} {pen : Nat} {Ns : List (List Str)} (T : TbOk K mg base c)
    (hdef : ∀ (f : Nat) (x : Str) (n : Nat), c.defs[f]? = some (x, n) → ∃ d N, dfs[f]? = some d ∧ d.ps = n ∧ DefOk K mg c f N d x)
    (hpen : ∀ (x : Str) (n : Nat), c.defs[pen]? = some (x, n) → ∀ k, Fc P w K mg base c (Mi.call dfs c.tb pen k) (3 * k) → ∃ fa fd ps, mg x = some (.ref fa) ∧ PySem.W.keepIn K (.ref fa) = true ∧ Binds K fd ps [] ∧ ps.length = n ∧ KwB c pen fd ps ∧ FnG (c.rpf pen) P w K mg base (3 * k + 3) fa fd ps (spC K c (Mi.call dfs c.tb pen (k + 1)) pen n))
    (F0 : ∀ cl k, (∀ (f : Nat) (x : Str) (n : Nat), c.defs[f]? = some (x, n) → ∃ fa fd ps, mg x = some (.ref fa) ∧ PySem.W.keepIn K (.ref fa) = true ∧ Binds K fd ps [] ∧ ps.length = n ∧ KwB c f fd ps ∧ FnG (c.rpf f) P w K mg base k fa fd ps (spC K c cl f n)) → Fc P w K mg base c cl k) :
    ∀ k, Fc P w K mg base c (Mi.call dfs c.tb pen k) (3 * k)
  | 0 => F0 _ _ fun f x n h => by
    obtain ⟨d, N, h1, h2, D⟩ := hdef f x n h
    obtain ⟨fa, name, qual, params, body, scope, dV, kV, doc, pm, cdv, ct, oc, an, od, osl, ps, e1, e2, e3, e4, e5, e6, e7, ekw, e8, e9⟩ := D.fn
    exact ⟨fa, _, ps, e4, e5, e6, by rw [e7, h2], ekw, FnG.never (by rw [e7, h2]) fun ds => rfl⟩
  | k + 1 => F0 _ _ fun f x n h => by
    have ih := fc_all (Ns := Ns) T hdef hpen F0 k
    by_cases hf : f = pen
    · subst hf
      exact hpen x n h k ih
    · obtain ⟨d, N, h1, h2, D⟩ := hdef f x n h
      subst h2
      exact df_ok ih T D hf h1
end Mi
end
section
set_option linter.all false
set_option maxRecDepth 100000
set_option Elab.async false
set_option maxHeartbeats 2000000
/-! The pen: plain expressions over ints and lists, read at slots and heap. -/
namespace Mi
open PySem PySem.Spec PyProof.Rows L2
/-- plain expressions -/
inductive PX where
  | var (i : Nat)
  | int (z : Int)
  | ix (a i : PX)
  | bin (o : BOp) (a b : PX)
  | lt (a b : PX)
  | gt (a b : PX)
  | len (a : PX)
  | toInt (a : PX)
def iop (o : BOp) (i j : Int) : Option Int := match o with
  | .add => some (i + j)
  | .mul => if (-(2 ^ 64) < i ∧ i < 2 ^ 64) ∨ (-(2 ^ 64) < j ∧ j < 2 ^ 64) then some (i * j) else none
  | .mod => if 0 < j then some (i % j) else none
  | .fdiv => if 0 < j ∧ j < 1073741824 then some (i / j) else none
  | .pow => if 0 ≤ j ∧ j ≤ 1000000 ∧ i.natAbs < 2 ^ 64 then some (i ^ j.toNat) else none
  | .sub => none
/-- what it is at slots and a heap -/
def PX.at (σ : L2.St) (H : Hp) : PX → Option V
  | .var i => (σ[i]?).join
  | .int z => some (.int z)
  | .ix a i => match a.at σ H, i.at σ H with
    | some (.ref p), some (.int z) => (match H p with
      | some (.lst xs) => L2.atI xs z
      | _ => none)
    | _, _ => none
  | .bin o a b => match a.at σ H, b.at σ H with
    | some (.int i), some (.int j) => (iop o i j).map V.int
    | _, _ => none
  | .lt a b => match a.at σ H, b.at σ H with
    | some (.int i), some (.int j) => some (.bl (decide (i < j)))
    | _, _ => none
  | .gt a b => match a.at σ H, b.at σ H with
    | some (.int i), some (.int j) => some (.bl (decide (j < i)))
    | _, _ => none
  | .len a => match a.at σ H with
    | some (.ref p) => (match H p with
      | some (.lst xs) => some (.int xs.length)
      | _ => none)
    | _ => none
  | .toInt a => match a.at σ H with
    | some (.int z) => some (.int z)
    | _ => none
def tP (e : PX) : TE := fun σ H Q => ∃ v, e.at σ H = some v ∧ Q v H
def chkP (c : Cfg) (sc : Scope) : PX → Expr → Bool
  | .var i, e => match vName e with
    | some x => decide (c.N[i]? = some x) && (visB sc x && okN x)
    | none => false
  | .int z, e => match vConst e with
    | some (.int y) => decide (y = z)
    | _ => false
  | .ix a i, e => match vSub e with
    | some (x, y) => notSlice y && (chkP c sc a x && chkP c sc i y)
    | none => false
  | .bin o a b, e => match vBin e with
    | some (x, op, y) => (opB o op && !(opB .sub op)) && (chkP c sc a x && chkP c sc b y)
    | none => false
  | .lt a b, e => match vCmp e with
    | some (x, [.Lt], [y]) => notSet y && (chkP c sc a x && chkP c sc b y)
    | _ => false
  | .gt a b, e => match vCmp e with
    | some (x, [.Gt], [y]) => notSet y && (chkP c sc a x && chkP c sc b y)
    | _ => false
  | .len a, e => match vCall e with
    | some (n, [y]) => (decide (n = "len") && (freeB c sc "len" && notStar y)) && chkP c sc a y
    | _ => false
  | .toInt a, e => match vCall e with
    | some (n, [y]) => (decide (n = "int") && (freeB c sc "int" && notStar y)) && chkP c sc a y
    | _ => false
theorem r_add : ∀ i j z H Q, iop .add i j = some z → Q (V.int z) H → rI0 (fun i j => V.int (i + j)) (.int i) (.int j) H Q := fun i j z H Q hz q => by
  cases hz
  exact ⟨i, j, rfl, rfl, q⟩
theorem r_mul : ∀ i j z H Q, iop .mul i j = some z → Q (V.int z) H → rI CMul (fun i j => V.int (i * j)) (.int i) (.int j) H Q := fun i j z H Q hz q => by
  simp only [iop] at hz
  split at hz
  · rename_i hc
    cases hz
    exact ⟨i, j, rfl, rfl, hc, q⟩
  · cases hz
theorem r_mod : ∀ i j z H Q, iop .mod i j = some z → Q (V.int z) H → rI (fun _ j => 0 < j) (fun i j => V.int (i % j)) (.int i) (.int j) H Q := fun i j z H Q hz q => by
  simp only [iop] at hz
  split at hz
  · rename_i hc
    cases hz
    exact ⟨i, j, rfl, rfl, hc, q⟩
  · cases hz
theorem r_fdiv : ∀ i j z H Q, iop .fdiv i j = some z → Q (V.int z) H → rI CDiv (fun i j => V.int (i / j)) (.int i) (.int j) H Q := fun i j z H Q hz q => by
  simp only [iop] at hz
  split at hz
  · rename_i hc
    cases hz
    exact ⟨i, j, rfl, rfl, hc, q⟩
  · cases hz
theorem r_pow : ∀ i j z H Q, iop .pow i j = some z → Q (V.int z) H → rI CPow (fun i j => V.int (i ^ j.toNat)) (.int i) (.int j) H Q := fun i j z H Q hz q => by
  simp only [iop] at hz
  split at hz
  · rename_i hc
    cases hz
    exact ⟨i, j, rfl, rfl, hc, q⟩
  · cases hz
section
variable {X : Cx} {c : Cfg} {sc : Scope} {cl : Cl} {k : Nat} {W : WX}
theorem okP (g : Gd X c sc cl k W) (F : Fc X.prog X.w X.K X.mg X.base c cl k) : ∀ {e : PX} {ast : Expr}, chkP c sc e ast = true → PE X ast (tP e)
  | .var i, ast, h => by
    simp only [chkP] at h
    split at h
    · rename_i x hx
      obtain ⟨p, rfl⟩ := vName_ok hx
      simp only [Bool.and_eq_true, decide_eq_true_eq] at h
      refine PE.imp (pe_var (i := i) (by rw [g.n]; exact h.1) (by rw [g.sc]; exact visB_ok h.2.1) (okN_ok h.2.2).1 (okN_ok h.2.2).2.1) fun σ H Q ⟨v, e, q⟩ => ⟨v, ?_, q⟩
      have e : (σ[i]?).join = some v := e
      cases hs : σ[i]? with
      | none =>
        rw [hs] at e
        cases e
      | some o =>
        rw [hs] at e
        have : o = some v := e
        rw [this]
    · cases h
  | .int z, ast, h => by
    simp only [chkP] at h
    split at h
    · rename_i y hx
      obtain ⟨j, p, rfl⟩ := vConst_ok hx
      rw [of_decide_eq_true h]
      exact PE.imp pe_int fun σ H Q ⟨v, e, q⟩ => by cases e; exact q
    · cases h
  | .ix a i, ast, h => by
    simp only [chkP] at h
    split at h
    · rename_i x y hx
      obtain ⟨p, rfl⟩ := vSub_ok hx
      simp only [Bool.and_eq_true] at h
      refine PE.imp (pe_ix ix_list (okP g F h.2.1) (okP g F h.2.2) (plainIx_of h.1)) fun σ H Q ⟨v, e, q⟩ => ?_
      simp only [PX.at] at e
      split at e
      · rename_i p' z ea ei
        split at e
        · rename_i xs hp
          exact ⟨_, ea, _, ei, p', xs, z, v, rfl, rfl, SqL.of hp, e, q⟩
        · cases e
      · cases e
    · cases h
  | .bin o a b, ast, h => by
    simp only [chkP] at h
    split at h
    · rename_i x op y hx
      obtain ⟨p, rfl⟩ := vBin_ok hx
      simp only [Bool.and_eq_true] at h
      obtain ⟨⟨h1, h2⟩, h3, h4⟩ := h
      have pa := okP g F h3
      have pb := okP g F h4
      have key : ∀ {r : R2}, OpR X (binaryOp op) r → (∀ i j z H Q, iop o i j = some z → Q (.int z) H → r (.int i) (.int j) H Q) → PE X (.BinOp x op y p) (tP (.bin o a b)) := fun {r} ho hr => by
        refine PE.imp (pe_op ho pa pb) fun σ H Q ⟨v, e, q⟩ => ?_
        simp only [PX.at] at e
        split at e
        · rename_i i j ea eb
          obtain ⟨z, hz, rfl⟩ := Option.map_eq_some_iff.mp e
          exact ⟨_, ea, _, eb, hr i j z H Q hz q⟩
        · cases e
      cases o with
      | add => cases op <;> first | exact absurd h1 (by decide) | exact key op_add r_add
      | mul => cases op <;> first | exact absurd h1 (by decide) | exact key op_mul r_mul
      | mod => cases op <;> first | exact absurd h1 (by decide) | exact key op_mod r_mod
      | fdiv => cases op <;> first | exact absurd h1 (by decide) | exact key op_fdiv r_fdiv
      | pow => cases op <;> first | exact absurd h1 (by decide) | exact key op_pow r_pow
      | sub => cases op <;> first | exact absurd h1 (by decide) | exact absurd h2 (by decide)
    · cases h
  | .lt a b, ast, h => by
    simp only [chkP] at h
    split at h
    · rename_i x y hx
      obtain ⟨p, rfl⟩ := vCmp_ok hx
      simp only [Bool.and_eq_true] at h
      refine PE.imp (pe_cmpR op_lt (okP g F h.2.1) (okP g F h.2.2) (marks_of h.1)) fun σ H Q ⟨v, e, q⟩ => ?_
      simp only [PX.at] at e
      split at e
      · rename_i i j ea eb
        cases e
        exact ⟨_, ea, _, eb, i, j, rfl, rfl, q⟩
      · cases e
    · cases h
  | .gt a b, ast, h => by
    simp only [chkP] at h
    split at h
    · rename_i x y hx
      obtain ⟨p, rfl⟩ := vCmp_ok hx
      simp only [Bool.and_eq_true] at h
      refine PE.imp (pe_cmpR op_gt (okP g F h.2.1) (okP g F h.2.2) (marks_of h.1)) fun σ H Q ⟨v, e, q⟩ => ?_
      simp only [PX.at] at e
      split at e
      · rename_i i j ea eb
        cases e
        exact ⟨_, ea, _, eb, i, j, rfl, rfl, q⟩
      · cases e
    · cases h
  | .len a, ast, h => by
    simp only [chkP] at h
    split at h
    · rename_i n y hx
      obtain ⟨p, q, rfl⟩ := vCall_ok hx
      simp only [Bool.and_eq_true, decide_eq_true_eq] at h
      obtain ⟨⟨rfl, h1, h2⟩, h3⟩ := h
      obtain ⟨hg, hm⟩ := freeB_ok g F h1
      refine PE.imp (pe_callB call_len_seq hg hm boot_len (pa_cons (okP g F h3) pa_nil (starEach_of h2)) (by decide) (by decide) (starEach_of h2) rfl) fun σ H Q ⟨v, e, q⟩ => ?_
      simp only [PX.at] at e
      split at e
      · rename_i p' ea
        split at e
        · rename_i xs hp
          cases e
          exact ⟨_, ea, _, _, rfl, .inl (SqL.of hp), q⟩
        · cases e
      · cases e
    · cases h
  | .toInt a, ast, h => by
    simp only [chkP] at h
    split at h
    · rename_i n y hx
      obtain ⟨p, q, rfl⟩ := vCall_ok hx
      simp only [Bool.and_eq_true, decide_eq_true_eq] at h
      obtain ⟨⟨rfl, h1, h2⟩, h3⟩ := h
      obtain ⟨hg, hm⟩ := freeB_ok g F h1
      refine PE.imp (pe_callTy call_int1 hg hm PyProof.Rows.boot_int (pa_cons (okP g F h3) pa_nil (starEach_of h2)) (by decide) (by decide) (starEach_of h2) rfl) fun σ H Q ⟨v, e, q⟩ => ?_
      simp only [PX.at] at e
      split at e
      · rename_i z ea
        cases e
        exact ⟨_, ea, .inl ⟨z, rfl, q⟩⟩
      · cases e
    · cases h
end
end Mi
end
section
set_option linter.all false
set_option maxRecDepth 100000
set_option Elab.async false
set_option maxHeartbeats 2000000
/-! The pen's def. -/
namespace Mi
open PySem PySem.Spec PyProof.Rows L2
def tPb (e : PX) : TT := fun σ H Q => ∃ b, e.at σ H = some (.bl b) ∧ Q b H
def asgP (c : Cfg) (sc : Scope) (i : Nat) (e : PX) (st : Stmt) : Bool := match vAsg st with
  | some (t, a) => (match vName t with
    | some x => decide (c.N[i]? = some x) && lcB sc x
    | none => false) && (notComp a && chkP c sc e a)
  | none => false
def setP (c : Cfg) (sc : Scope) (i : Nat) (ie e : PX) (st : Stmt) : Bool := match vAsg st with
  | some (t, a) => (match vSub t with
    | some (o, kx) => (match vName o with
      | some x => decide (c.N[i]? = some x) && (visB sc x && okN x)
      | none => false) && (notSlice kx && chkP c sc ie kx)
    | none => false) && chkP c sc e a
  | none => false
/-- pen[2] = spread(cell, k) -/
def sprP (c : Cfg) (sc : Scope) (f : Nat) (st : Stmt) : Bool := match vAsg st with
  | some (t, a) => (match vSub t with
    | some (o, kx) => (match vName o with
      | some x => decide (c.N[0]? = some x) && (visB sc x && okN x)
      | none => false) && (notSlice kx && chkP c sc (.int 2) kx)
    | none => false) && (match vCall a with
    | some (x, [y, z]) => (c.rp || c.pl.contains f) && ((match c.defs[f]? with
      | some (n, m) => decide (n = x) && decide (m = 2)
      | none => false) && ((glB sc x && okN x) && ((notStar y && notStar z) && (chkP c sc (.var 3) y && chkP c sc (.var 2) z))))
    | _ => false)
  | none => false
section
variable {X : Cx} {c : Cfg} {sc : Scope} {cl : Cl} {k : Nat} {W : WX} {st : Stmt}
theorem okPlt (g : Gd X c sc cl k W) (F : Fc X.prog X.w X.K X.mg X.base c cl k) {a b : PX} {ast : Expr} (h : chkP c sc (.lt a b) ast = true) : PT X ast (tPb (.lt a b)) := by
  simp only [chkP] at h
  split at h
  · rename_i x y hx
    obtain ⟨p, rfl⟩ := vCmp_ok hx
    simp only [Bool.and_eq_true] at h
    refine PT.imp (pt_cmpR op_lt (okP g F h.2.1) (okP g F h.2.2) (marks_of h.1)) fun σ H Q ⟨v, e, q⟩ => ?_
    simp only [PX.at] at e
    split at e
    · rename_i i j ea eb
      cases e
      exact ⟨_, ea, _, eb, i, j, rfl, rfl, _, rfl, q⟩
    · cases e
  · cases h
theorem okPgt (g : Gd X c sc cl k W) (F : Fc X.prog X.w X.K X.mg X.base c cl k) {a b : PX} {ast : Expr} (h : chkP c sc (.gt a b) ast = true) : PT X ast (tPb (.gt a b)) := by
  simp only [chkP] at h
  split at h
  · rename_i x y hx
    obtain ⟨p, rfl⟩ := vCmp_ok hx
    simp only [Bool.and_eq_true] at h
    refine PT.imp (pt_cmpR op_gt (okP g F h.2.1) (okP g F h.2.2) (marks_of h.1)) fun σ H Q ⟨v, e, q⟩ => ?_
    simp only [PX.at] at e
    split at e
    · rename_i i j ea eb
      cases e
      exact ⟨_, ea, _, eb, i, j, rfl, rfl, _, rfl, q⟩
    · cases e
  · cases h
theorem ps_asgP (g : Gd X c sc cl k W) (F : Fc X.prog X.w X.K X.mg X.base c cl k) (S : Sx X sc) {i : Nat} {e : PX} (h : asgP c sc i e st = true) : PS X st (tAsg (tP e) (gName i)) := by
  unfold asgP at h
  split at h
  · rename_i t a hv
    obtain ⟨p, rfl⟩ := vAsg_ok hv
    simp only [Bool.and_eq_true] at h
    obtain ⟨h1, h2, h3⟩ := h
    split at h1
    · rename_i x hx
      obtain ⟨py, rfl⟩ := vName_ok hx
      simp only [Bool.and_eq_true, decide_eq_true_eq] at h1
      have hN : X.N.Nodup := by rw [g.n]; exact g.nd
      have hi : X.N[i]? = some x := by rw [g.n]; exact h1.1
      have h4 := h1.2
      unfold lcB at h4
      split at h4
      · rename_i e
        exact ps_set hN hi (.inl (S.own.lo x e)) (okP g F h3) (swaps_of h2) (.inr (S.own.lo x e))
      · rename_i e
        exact ps_set hN hi (.inr (S.own.ce x e).1) (okP g F h3) (swaps_of h2) (.inl (S.own.ce x e).2)
      · cases h4
    · cases h1
  · cases h
theorem ps_setP (g : Gd X c sc cl k W) (F : Fc X.prog X.w X.K X.mg X.base c cl k) {i : Nat} {ie e : PX} (h : setP c sc i ie e st = true) : PS X st (tAsg (tP e) (gSub (tVar i) (tP ie) rSetL)) := by
  unfold setP at h
  split at h
  · rename_i t a hv
    obtain ⟨p, rfl⟩ := vAsg_ok hv
    simp only [Bool.and_eq_true] at h
    obtain ⟨h1, h2⟩ := h
    split at h1
    · rename_i o kx ho
      obtain ⟨p2, rfl⟩ := vSub_ok ho
      simp only [Bool.and_eq_true] at h1
      obtain ⟨h3, h4, h5⟩ := h1
      split at h3
      · rename_i x hx
        obtain ⟨p3, rfl⟩ := vName_ok hx
        simp only [Bool.and_eq_true, decide_eq_true_eq] at h3
        refine ps_asg (okP g F h2) (pg_sub (pe_var (i := i) (by rw [g.n]; exact h3.1) (by rw [g.sc]; exact visB_ok h3.2.1) (okN_ok h3.2.2).1 (okN_ok h3.2.2).2.1) (okP g F h5) set_list ?_) ?_ ?_ rfl
        · intro v
          cases kx <;> first | rfl | cases h4
        · show swapsWith a (some (.Subscript (.Name x p3) kx p2)) p.line X.env = pure false
          cases a <;> rfl
        · cases a <;> rfl
      · cases h3
    · cases h1
  · cases h
/-- what the call of spread is to bring -/
def tSpr (K : PySem.W.Frag) (c : Cfg) (cl : Cl) (f : Nat) : TE := fun σ H Q => ∃ x y, PX.at σ H (.var 3) = some x ∧ PX.at σ H (.var 2) = some y ∧ spC K c cl f 2 [x, y] H Q (fun _ _ _ => False)
theorem ps_sprP (g : Gd X c sc cl k W) (F : Fc X.prog X.w X.K X.mg X.base c cl k) {f : Nat} (h : sprP c sc f st = true) : PS X st (tAsg (tSpr X.K c cl f) (gSub (tVar 0) (tP (.int 2)) rSetL)) := by
  unfold sprP at h
  split at h
  · rename_i t a hv
    obtain ⟨p, rfl⟩ := vAsg_ok hv
    simp only [Bool.and_eq_true] at h
    obtain ⟨h1, h2⟩ := h
    split at h1
    · rename_i o kx ho
      obtain ⟨p2, rfl⟩ := vSub_ok ho
      simp only [Bool.and_eq_true] at h1
      obtain ⟨h3, h4, h5⟩ := h1
      split at h3
      · rename_i x hx
        obtain ⟨p3, rfl⟩ := vName_ok hx
        simp only [Bool.and_eq_true, decide_eq_true_eq] at h3
        split at h2
        · rename_i n y z hc
          obtain ⟨pp, qq, rfl⟩ := vCall_ok hc
          simp only [Bool.and_eq_true] at h2
          obtain ⟨hr, h6, h7, h8, h9, h10⟩ := h2
          split at h6
          · rename_i n' m hd
            simp only [Bool.and_eq_true, decide_eq_true_eq] at h6
            obtain ⟨rfl, rfl⟩ := h6
            obtain ⟨fa, fd, ps, e1, e2, e3, e4, _, e5⟩ := F.defs f _ _ hd
            have hx0 : Passes (L2.CX X.prog X.w) X (fun _ _ _ => False) := fun pins σ H s e s' I ⟨_, _, _, _, _, _, _, _, _, _, _, _, q⟩ => q.elim
            have pc := pe_callG (p := pp) (pos := qq) e5 g.room (fun z => g.gu (Cfg.rp_of hr z)) (Gl_of g h7.1) e1 e2 e3 hx0 (pa_cons (okP g F h9) (pa_cons (okP g F h10) pa_nil (starEach_of h8.2)) (starEach_of h8.1)) (okN_ok h7.2).1 (starEach_of h8.1) (star_any (show [z].all notStar = true by simp [h8.2]))
            refine PS.imp (ps_asg pc (pg_sub (pe_var (i := 0) (by rw [g.n]; exact h3.1) (by rw [g.sc]; exact visB_ok h3.2.1) (okN_ok h3.2.2).1 (okN_ok h3.2.2).2.1) (okP g F h5) set_list ?_) rfl rfl rfl) fun T σ H ⟨x, y, q1, q2, q3⟩ => ⟨x, q1, y, q2, q3⟩
            intro v
            cases kx <;> first | rfl | cases h4
          · cases h6
        · cases h2
      · cases h3
    · cases h1
  · cases h
end
/-! ### the body -/
def pPen : PX := .var 0
def pCells : PX := .ix (.var 0) (.int 0)
def eDraw : PX := .bin .mod (.toInt (.ix pCells (.bin .mod (.toInt (.bin .add (.bin .mul (.var 2) (.int 5)) (.int 3))) (.len pCells)))) (.bin .add (.bin .pow (.int 10) (.int 17)) (.var 2))
def takeB (c : Cfg) (sc : Scope) (f : Nat) (body : List Stmt) : Bool := match body with
  | [s1, s2, s3, s4] => (match vIfS s1 with
    | some (t, [a1, a2, a3, a4, a5], []) => chkP c sc (.lt (.ix pPen (.int 2)) (.var 1)) t && (asgP c sc 2 (.ix pPen (.int 1)) a1 && (asgP c sc 3 (.int 0) a2 && ((match vIfS a3 with
      | some (t3, [b1], [b2]) => chkP c sc (.lt (.var 2) (.len pCells)) t3 && (asgP c sc 3 (.ix pCells (.var 2)) b1 && (match vIfS b2 with
        | some (t4, [b3], []) => chkP c sc (.gt (.len pCells) (.int 0)) t4 && asgP c sc 3 eDraw b3
        | _ => false))
      | _ => false) && (setP c sc 0 (.int 1) (.bin .add (.var 2) (.int 1)) a4 && sprP c sc f a5))))
    | _ => false) && (asgP c sc 4 (.bin .mod (.toInt (.ix pPen (.int 2))) (.var 1)) s2 && (setP c sc 0 (.int 2) (.bin .fdiv (.ix pPen (.int 2)) (.var 1)) s3 && (match vRet s4 with
      | some e => chkP c sc (.var 4) e
      | none => false)))
  | _ => false
def tTake (K : PySem.W.Frag) (c : Cfg) (cl : Cl) (f : Nat) : TS :=
  tSeq (tIfS (tPb (.lt (.ix pPen (.int 2)) (.var 1)))
    (tSeq (tAsg (tP (.ix pPen (.int 1))) (gName 2)) (tSeq (tAsg (tP (.int 0)) (gName 3)) (tSeq
      (tIfS (tPb (.lt (.var 2) (.len pCells))) (tSeq (tAsg (tP (.ix pCells (.var 2))) (gName 3)) tNext) (tSeq (tIfS (tPb (.gt (.len pCells) (.int 0))) (tSeq (tAsg (tP eDraw) (gName 3)) tNext) tNext) tNext))
      (tSeq (tAsg (tP (.bin .add (.var 2) (.int 1))) (gSub (tVar 0) (tP (.int 1)) rSetL)) (tSeq (tAsg (tSpr K c cl f) (gSub (tVar 0) (tP (.int 2)) rSetL)) tNext))))) tNext)
  (tSeq (tAsg (tP (.bin .mod (.toInt (.ix pPen (.int 2))) (.var 1))) (gName 4)) (tSeq (tAsg (tP (.bin .fdiv (.ix pPen (.int 2)) (.var 1))) (gSub (tVar 0) (tP (.int 2)) rSetL)) (tSeq (tRet (tP (.var 4))) tNext)))
theorem take_pss {X : Cx} {c : Cfg} {sc : Scope} {cl : Cl} {k : Nat} {W : WX} {f : Nat} {body : List Stmt} (g : Gd X c sc cl k W) (F : Fc X.prog X.w X.K X.mg X.base c cl k) (S : Sx X sc) (h : takeB c sc f body = true) : PSs X body (tTake X.K c cl f) := by
  unfold takeB at h
  split at h
  · rename_i s1 s2 s3 s4
    simp only [Bool.and_eq_true] at h
    obtain ⟨h1, h2, h3, h4⟩ := h
    split at h1
    · rename_i t a1 a2 a3 a4 a5 hv
      obtain ⟨p, rfl⟩ := vIfS_ok hv
      simp only [Bool.and_eq_true] at h1
      obtain ⟨h5, h6, h7, h8, h9, h10⟩ := h1
      split at h8
      · rename_i t3 b1 b2 hv3
        obtain ⟨p3, rfl⟩ := vIfS_ok hv3
        simp only [Bool.and_eq_true] at h8
        obtain ⟨h11, h12, h13⟩ := h8
        split at h13
        · rename_i t4 b3 hv4
          obtain ⟨p4, rfl⟩ := vIfS_ok hv4
          simp only [Bool.and_eq_true] at h13
          split at h4
          · rename_i e he
            obtain ⟨p5, rfl⟩ := vRet_ok he
            exact pss_cons (ps_if (okPlt g F h5) (pss_cons (ps_asgP g F S h6) (pss_cons (ps_asgP g F S h7) (pss_cons (ps_if (okPlt g F h11) (pss_cons (ps_asgP g F S h12) pss_nil) (pss_cons (ps_if (okPgt g F h13.1) (pss_cons (ps_asgP g F S h13.2) pss_nil) pss_nil) pss_nil)) (pss_cons (ps_setP g F h9) (pss_cons (ps_sprP g F h10) pss_nil))))) pss_nil)
              (pss_cons (ps_asgP g F S h2) (pss_cons (ps_setP g F h3) (pss_cons (ps_ret (okP g F h4)) pss_nil)))
          · cases h4
        · cases h13
      · cases h8
    · cases h1
  · cases h
end Mi
end
section
set_option linter.all false
set_option maxRecDepth 100000
set_option Elab.async false
set_option maxHeartbeats 2000000
/-! The pen's def: what it gives. -/
namespace Mi
open PySem PySem.Spec PyProof.Rows L2
section
variable {K : PySem.W.Frag} {c : Cfg} {pa : Pa (c.T K)} {B : Addr → Prop} {H0 H : Hp} {b : Nat} {n : Int} {Q : VK} {cl : Cl} {f : Nat}
def stP {τ : Tbs} (pa : Pa τ) (n : Int) (v2 v3 v4 : Option V) : L2.St := [some (.ref pa.p), some (.int n), v2, v3, v4]
/-- the pen is written -/
theorem Hk.set {b' : Nat} (k : Hk pa b H) {i j : Int} (hi : 0 ≤ i) (hb : i + b' ≤ 1000000) : Hk pa b' (upd H pa.p (.lst [.ref pa.c, .int i, .int j])) := by
  obtain ⟨h0, ns, a, r, h1, h2, h3, h4, h5, h6⟩ := k
  exact ⟨h0, ns, i, j, upd_same, by rw [upd_ne h0]; exact h2, h3, hi, hb, tabs_put h6 (put_lst h1)⟩
theorem Ex.pen {o : HO} (x : Ex pa H0 H) (h : ∃ u, H pa.p = some u) (ho : NT o := by intro ps w; cases w) : Ex pa H0 (upd H pa.p o) :=
  ⟨fun a u e hn ht => by rw [upd_ne hn]; exact x.keep a u e hn ht, fun a u e tu => by
    by_cases z : a = pa.p
    · exact ⟨o, by rw [z]; exact upd_same, ho⟩
    · obtain ⟨u', e', t'⟩ := x.dom a u e tu
      exact ⟨u', by rw [upd_ne z]; exact e', t'⟩⟩
theorem at_p {v2 v3 v4 : Option V} {a r : Int} {z : Int} {v : V} (e1 : H pa.p = some (.lst [.ref pa.c, .int a, .int r])) (h : L2.atI [V.ref pa.c, .int a, .int r] z = some v) : PX.at (stP pa n v2 v3 v4) H (.ix pPen (.int z)) = some v := by
  show (match H pa.p with | some (.lst xs) => L2.atI xs z | _ => none) = _
  rw [e1]
  exact h
theorem at_c {v2 v3 v4 : Option V} {a r : Int} (e1 : H pa.p = some (.lst [.ref pa.c, .int a, .int r])) : PX.at (stP pa n v2 v3 v4) H pCells = some (.ref pa.c) := at_p e1 rfl
theorem at_len {v2 v3 v4 : Option V} {a r : Int} {ns : List Int} (e1 : H pa.p = some (.lst [.ref pa.c, .int a, .int r])) (e2 : H pa.c = some (.lst (ns.map V.int))) : PX.at (stP pa n v2 v3 v4) H (.len pCells) = some (.int ns.length) := by
  show (match PX.at (stP pa n v2 v3 v4) H pCells with | some (.ref p) => (match H p with | some (.lst xs) => some (V.int xs.length) | _ => none) | _ => none) = _
  rw [at_c e1]
  show (match H pa.c with | some (.lst xs) => some (V.int xs.length) | _ => none) = _
  rw [e2]
  show some (V.int (ns.map V.int).length) = _
  rw [List.length_map]
theorem at_cell {v2 v3 v4 : Option V} {a r z : Int} {ns : List Int} {e : PX} (e1 : H pa.p = some (.lst [.ref pa.c, .int a, .int r])) (e2 : H pa.c = some (.lst (ns.map V.int))) (he : PX.at (stP pa n v2 v3 v4) H e = some (.int z)) (h0 : 0 ≤ z) (h1 : z < ns.length) :
    ∃ y, PX.at (stP pa n v2 v3 v4) H (.ix pCells e) = some (.int y) := by
  have hl : z.toNat < ns.length := by omega
  refine ⟨ns[z.toNat], ?_⟩
  show (match PX.at (stP pa n v2 v3 v4) H pCells, PX.at (stP pa n v2 v3 v4) H e with | some (.ref p), some (.int z) => (match H p with | some (.lst xs) => L2.atI xs z | _ => none) | _, _ => none) = _
  rw [at_c e1, he]
  show (match H pa.c with | some (.lst xs) => L2.atI xs z | _ => none) = _
  rw [e2]
  show L2.atI (ns.map V.int) z = _
  unfold L2.atI L2.ixN
  rw [List.length_map, if_pos h0, if_pos h1]
  show (ns.map V.int)[z.toNat]? = _
  rw [List.getElem?_map, List.getElem?_eq_getElem hl]
  rfl
theorem at_bin {σ : L2.St} {o : BOp} {a d : PX} {i j z : Int} (ha : PX.at σ H a = some (.int i)) (hd : PX.at σ H d = some (.int j)) (h : iop o i j = some z) : PX.at σ H (.bin o a d) = some (.int z) := by
  show (match PX.at σ H a, PX.at σ H d with | some (.int i), some (.int j) => (iop o i j).map V.int | _, _ => none) = _
  rw [ha, hd]
  show (iop o i j).map V.int = _
  rw [h]
  rfl
theorem at_int {σ : L2.St} {a : PX} {i : Int} (ha : PX.at σ H a = some (.int i)) : PX.at σ H (.toInt a) = some (.int i) := by
  show (match PX.at σ H a with | some (.int z) => some (V.int z) | _ => none) = _
  rw [ha]
theorem at_lt {σ : L2.St} {a d : PX} {i j : Int} (ha : PX.at σ H a = some (.int i)) (hd : PX.at σ H d = some (.int j)) : PX.at σ H (.lt a d) = some (.bl (decide (i < j))) := by
  show (match PX.at σ H a, PX.at σ H d with | some (.int i), some (.int j) => some (V.bl (decide (i < j))) | _, _ => none) = _
  rw [ha, hd]
theorem at_gt {σ : L2.St} {a d : PX} {i j : Int} (ha : PX.at σ H a = some (.int i)) (hd : PX.at σ H d = some (.int j)) : PX.at σ H (.gt a d) = some (.bl (decide (j < i))) := by
  show (match PX.at σ H a, PX.at σ H d with | some (.int i), some (.int j) => some (V.bl (decide (j < i))) | _, _ => none) = _
  rw [ha, hd]
/-- pen[z] = an int -/
theorem set_pen {σ : L2.St} {a r z : Int} {y : V} {R : L2.St → Hp → Prop} (hσ : σ[0]? = some (some (.ref pa.p))) (e1 : H pa.p = some (.lst [.ref pa.c, .int a, .int r])) (j : Nat) (hz : L2.ixN 3 z = some j) (h : R σ (upd H pa.p (.lst ([V.ref pa.c, .int a, .int r].set j y)))) :
    gSub (tVar 0) (tP (.int z)) rSetL y σ H R := ⟨_, hσ, .int z, rfl, pa.p, _, z, j, rfl, rfl, e1, hz, h⟩
theorem take_ok (rm : Rm pa B b H0) (hb : 0 < b) (h0 : 0 < n) (h1 : n < 1073741824) (hq : ∀ i : Nat, i < n.toNat → Po pa B H0 Q (b - 1) (.int (i : Int)))
    (hs : ∀ (z a : Int) (b : Nat) (P : Nat → D → Prop) (E : Nat → Nat → Prop), 0 ≤ a → a ≤ 1000000 → (∀ r : Int, P b (.int r)) → (cl f [.int z, .int a]).wp b P E) :
    tTake K c cl f { nx := fun _ H' => Q .non H', rt := Q } (stP pa n none none none) H0 := by
  -- what holds behind the first statement
  have rest : ∀ v2 v3 H, Ex pa H0 H → Hk pa (b - 1) H → tSeq (tAsg (tP (.bin .mod (.toInt (.ix pPen (.int 2))) (.var 1))) (gName 4)) (tSeq (tAsg (tP (.bin .fdiv (.ix pPen (.int 2)) (.var 1))) (gSub (tVar 0) (tP (.int 2)) rSetL)) (tSeq (tRet (tP (.var 4))) tNext)) { nx := fun _ H' => Q .non H', rt := Q } (stP pa n v2 v3 none) H := by
    intro v2 v3 H x k
    have k' := k
    obtain ⟨p0, ns, a, r, e1, e2, e3, e4, e5, _⟩ := k'
    refine ⟨.int (r % n), at_bin (at_int (at_p e1 rfl)) rfl (if_pos h0), ?_⟩
    refine ⟨.int (r / n), at_bin (at_p (n := n) (v2 := v2) (v3 := v3) (v4 := some (.int (r % n))) e1 rfl) rfl (if_pos ⟨h0, h1⟩), ?_⟩
    refine set_pen (a := a) (r := r) (z := 2) rfl e1 2 rfl ?_
    refine ⟨.int (r % n), rfl, ?_⟩
    have hr0 : 0 ≤ r % n := Int.emod_nonneg _ (by omega)
    have hr1 : r % n < n := Int.emod_lt_of_pos _ h0
    have hi := hq (r % n).toNat (by omega)
    have e : (((r % n).toNat : Nat) : Int) = r % n := by omega
    rw [e] at hi
    exact hi _ _ (x.pen ⟨_, e1⟩) (k.set e4 e5) (.int _)
  have k0 := rm.hk
  obtain ⟨p0, ns, a, r, e1, e2, e3, e4, e5, _⟩ := k0
  refine ⟨_, at_lt (at_p e1 rfl) rfl, ?_⟩
  cases hd : decide (r < n) with
  | false =>
    refine iteF ?_
    exact rest none none H0 Ex.refl (rm.hk.le (Nat.sub_le _ _))
  | true =>
    refine iteT ?_
    refine ⟨.int a, at_p e1 rfl, ⟨.int 0, rfl, ?_⟩⟩
    -- behind the cell's choice
    have after : ∀ z : Int, tSeq (tAsg (tP (.bin .add (.var 2) (.int 1))) (gSub (tVar 0) (tP (.int 1)) rSetL)) (tSeq (tAsg (tSpr K c cl f) (gSub (tVar 0) (tP (.int 2)) rSetL)) tNext)
        { nx := tSeq (tAsg (tP (.bin .mod (.toInt (.ix pPen (.int 2))) (.var 1))) (gName 4)) (tSeq (tAsg (tP (.bin .fdiv (.ix pPen (.int 2)) (.var 1))) (gSub (tVar 0) (tP (.int 2)) rSetL)) (tSeq (tRet (tP (.var 4))) tNext)) { nx := fun _ H' => Q .non H', rt := Q }, rt := Q } (stP pa n (some (.int a)) (some (.int z)) none) H0 := by
      intro z
      refine ⟨.int (a + 1), at_bin rfl rfl rfl, set_pen (a := a) (r := r) (z := 1) rfl e1 1 rfl ?_⟩
      have k1 : Hk pa (b - 1) (upd H0 pa.p (.lst [.ref pa.c, .int (a + 1), .int r])) := rm.hk.set (by omega) (by omega)
      have x1 : Ex pa H0 (upd H0 pa.p (.lst [.ref pa.c, .int (a + 1), .int r])) := Ex.refl.pen ⟨_, e1⟩
      refine ⟨.int z, .int a, rfl, rfl, rfl, pa, B, b - 1, [.int z, .int a], rm.ex x1 k1, .cons (.int _) (.cons (.int _) .nil), hs z a _ _ _ e4 (by omega) fun r2 => ?_⟩
      intro v H2 x2 k2 rv
      cases rv
      have k2' := k2
      obtain ⟨_, ns2, a2, r3, f1, f2, f3, f4, f5, _⟩ := k2'
      refine set_pen (a := a2) (r := r3) (z := 2) rfl f1 2 rfl ?_
      exact rest _ _ _ ((x1.trans x2).pen ⟨_, f1⟩) (k2.set f4 f5)
    refine ⟨_, at_lt rfl (at_len e1 e2), ?_⟩
    cases hd2 : decide (a < ns.length) with
    | true =>
      refine iteT ?_
      obtain ⟨y, hy⟩ := at_cell (n := n) (v2 := some (.int a)) (v3 := some (.int 0)) (v4 := none) (e := .var 2) (z := a) e1 e2 rfl e4 (of_decide_eq_true hd2)
      exact ⟨.int y, hy, after y⟩
    | false =>
      refine iteF ?_
      refine ⟨_, at_gt (at_len e1 e2) rfl, ?_⟩
      cases hd3 : decide ((0 : Int) < ns.length) with
      | false =>
        refine iteF ?_
        exact after 0
      | true =>
        refine iteT ?_
        have hn : (0 : Int) < ns.length := of_decide_eq_true hd3
        have hm : PX.at (stP pa n (some (.int a)) (some (.int 0)) none) H0 (.bin .mod (.toInt (.bin .add (.bin .mul (.var 2) (.int 5)) (.int 3))) (.len pCells)) = some (.int ((a * 5 + 3) % ns.length)) :=
          at_bin (at_int (at_bin (at_bin rfl rfl (if_pos (.inr (by omega)))) rfl rfl)) (at_len e1 e2) (if_pos hn)
        obtain ⟨y, hy⟩ := at_cell e1 e2 hm (Int.emod_nonneg _ (by omega)) (Int.emod_lt_of_pos _ hn)
        have hp : PX.at (stP pa n (some (.int a)) (some (.int 0)) none) H0 (.bin .add (.bin .pow (.int 10) (.int 17)) (.var 2)) = some (.int (10 ^ 17 + a)) :=
          at_bin (at_bin rfl rfl (show iop .pow 10 17 = some (10 ^ 17) by decide +kernel)) rfl rfl
        exact ⟨_, at_bin (at_int hy) hp (if_pos (by omega)), after _⟩
end
/-- the pen's def, at each level of calls -/
theorem pen_fn {P : Program} {w : World} {K : PySem.W.Frag} {mg : Str → Option Value} {base : Heap} {c : Cfg} {k j : Nat} {dfs : List Df} {pen spr : Nat} {N : List Str} {x : Str} {r : Bool} (F : Fc P w K mg base c (Mi.call dfs c.tb pen k) j)
    {f : Addr} {name qual : Str} {params : Arguments} {body : List Stmt} {scope : Scope} {dV kV doc pm cdv ct oc : Value} {an od : Option Addr} {osl : Array (Option Value)} {ps : List Str}
    (h1 : K.lookup f = some ⟨oc, od, .func (PySem.W.fnOf name qual params body scope dV kV doc pm an cdv ct), osl⟩) (h2 : PySem.W.codeIn K cdv qual = true) (h3 : FnScope N ps scope) (hN : N.length = 5) (hps : ps.length = 2) (hb : takeB { c with N := N, rp := r, dn := false } scope spr body = true)
    (hs : 5 ≤ k → ∀ (z a : Int) (b : Nat) (P : Nat → D → Prop) (E : Nat → Nat → Prop), 0 ≤ a → a ≤ 1000000 → (∀ r : Int, P b (.int r)) → (Mi.call dfs c.tb pen k spr [.int z, .int a]).wp b P E) :
    FnG r P w K mg base (j + 1) f (PySem.W.fnOf name qual params body scope dV kV doc pm an cdv ct) ps (spC K c (Mi.call dfs c.tb pen (k + 1)) pen 2) := by
  refine fnG_of h1 h2 h3 (fun vs H Q E h => by rw [h.1, hps]) fun A outer s H vs Q E hr hgu hsp => ?_
  have tk : Takes (cxOf (L2.CX P w) P w K mg base N qual scope f cdv A outer s H E) (fun cls d _ H => E cls d H) := takes_of rfl rfl rfl rfl
  have gd : Gd (cxOf (L2.CX P w) P w K mg base N qual scope f cdv A outer s H E) { c with N := N, rp := r, dn := false } scope (Mi.call dfs c.tb pen k) j (fun cls d _ H => E cls d H) := ⟨rfl, h3.nd, rfl, rfl, hr, hgu, tk, (fun z => nomatch z)⟩
  have sx : Sx (cxOf (L2.CX P w) P w K mg base N qual scope f cdv A outer s H E) scope := ⟨⟨fun x h => h, fun x h => ⟨h, rfl⟩⟩, passes_of rfl, h3.kind, rfl, rfl, rfl, rfl⟩
  refine ⟨_, take_pss gd (F.namesR N _ _) sx hb, ?_⟩
  obtain ⟨hl, pa, B, b, ds, rm, rl, hw⟩ := hsp
  have e : Mi.call dfs c.tb pen (k + 1) pen ds = if 5 ≤ k then takeP ds else .stuck := by
    show (if pen = pen then _ else _) = _
    rw [if_pos rfl]
  rw [e] at hw
  by_cases hk : 5 ≤ k
  · rw [if_pos hk] at hw
    unfold takeP at hw
    split at hw
    · rename_i n
      split at hw
      · rename_i hn
        obtain ⟨w1, w2, w3⟩ := hw
        cases rl with
        | cons r1 rl => cases rl with
          | cons r2 rl =>
            cases rl
            cases r1
            cases r2
            have e2 : L2.start N [V.ref pa.p, V.int n] = stP pa n none none none := by
              unfold L2.start stP
              rw [hN]
              rfl
            rw [e2]
            exact take_ok rm w2 hn.1 hn.2 (fun i hi => w3 i hi) (hs hk)
      · exact hw.elim
    · exact hw.elim
  · rw [if_neg hk] at hw
    exact hw.elim
end Mi
end
section
set_option linter.all false
set_option maxRecDepth 100000
set_option Elab.async false
set_option maxHeartbeats 2000000
/-! The pen is made: _law_open. -/
namespace Mi
open PySem PySem.Spec PyProof.Rows L2
/-- the script's slice -/
def sliceB (c : Cfg) (sc : Scope) (lo : Option Int) (hi : Int) (e : Expr) : Bool := match vSub e with
  | some (o, s) => chkP c sc (.var 0) o && (match lo, vSl s with
    | none, some (none, some y, none) => chkP c sc (.int hi) y
    | some l, some (some x, some y, none) => chkP c sc (.int l) x && chkP c sc (.int hi) y
    | _, _ => false)
  | none => false
def tSlc (K : PySem.W.Frag) (lo : Option Int) (hi : Int) : TE := fun σ H Q => ∃ a xs, PX.at σ H (.var 0) = some (.ref a) ∧ SqL K H a xs ∧ ∀ p, H p = none → Q (.ref p) (upd H p (.lst (cutV xs lo (some hi))))
def openB (c : Cfg) (sc : Scope) (body : List Stmt) : Bool := match body with
  | [s1, s2, s3] => (match vAsg s1 with
    | some (t, a) => (match vName t with
      | some x => decide (c.N[1]? = some x) && lcB sc x
      | none => false) && (match vCall a with
      | some (n, [y]) => (decide (n = "list") && (freeB c sc "list" && notStar y)) && sliceB c sc none 12 y
      | _ => false)
    | none => false) && ((match vFor s2 with
    | some (tg, it, [b]) => (tgB c.N sc (.tp [2, 3]) tg && notSet it) && ((match vCall it with
      | some (n, [y]) => ((vTup tg).isSome && (decide (n = "enumerate") && (freeB c sc "enumerate" && notStar y))) && sliceB c sc (some 12) 63 y
      | _ => false) && setP c sc 1 (.bin .mod (.toInt (.var 2)) (.int 12)) (.bin .add (.ix (.var 1) (.bin .mod (.toInt (.var 2)) (.int 12))) (.var 3)) b)
    | _ => false) && (match vRet s3 with
    | some e => (match vLst e with
      | some [x, y, z] => (chkP c sc (.var 1) x && notStar x) && ((chkP c sc (.int 0) y && notStar y) && (chkP c sc (.int 0) z && notStar z))
      | _ => false)
    | none => false))
  | _ => false
def tOpen (K : PySem.W.Frag) : TS :=
  tSeq (tAsg (fun σ H Q => tSlc K none 12 σ H fun v H1 => ∃ p ys, v = .ref p ∧ H1 p = some (.lst ys) ∧ ∀ l, H1 l = none → Q (.ref l) (upd H1 l (.lst ys))) (gName 1))
  (tSeq (tFor (fun σ H R => tSlc K (some 12) 63 σ H fun v H1 => ∃ a xs, v = .ref a ∧ H1 a = some (.lst xs) ∧ R (Ite K a) H1) (gTg K (.tp [2, 3])) (tSeq (tAsg (tP (.bin .add (.ix (.var 1) (.bin .mod (.toInt (.var 2)) (.int 12))) (.var 3))) (gSub (tVar 1) (tP (.bin .mod (.toInt (.var 2)) (.int 12))) rSetL)) tNext))
  (tSeq (tRet (fun σ H Q => ∃ x, PX.at σ H (.var 1) = some x ∧ ∀ p, H p = none → Q (.ref p) (upd H p (.lst [x, .int 0, .int 0])))) tNext))
section
variable {X : Cx} {c : Cfg} {sc : Scope} {cl : Cl} {k : Nat} {W : WX}
theorem pe_slc (g : Gd X c sc cl k W) (F : Fc X.prog X.w X.K X.mg X.base c cl k) {lo : Option Int} {hi : Int} {e : Expr} (h : sliceB c sc lo hi e = true) : PE X e (tSlc X.K lo hi) := by
  unfold sliceB at h
  split at h
  · rename_i o s hv
    obtain ⟨p, rfl⟩ := vSub_ok hv
    simp only [Bool.and_eq_true] at h
    obtain ⟨h1, h2⟩ := h
    split at h2
    · rename_i y hs
      obtain ⟨p2, rfl⟩ := vSl_ok hs
      exact PE.imp (pe_slice sl_list (okP g F h1) po_none (po_some (okP g F h2))) fun σ H Q ⟨a, xs, e1, e2, q⟩ => ⟨_, e1, _, rfl, hi, rfl, a, xs, rfl, e2, q⟩
    · rename_i l x y hs
      obtain ⟨p2, rfl⟩ := vSl_ok hs
      simp only [Bool.and_eq_true] at h2
      exact PE.imp (pe_slice sl_list (okP g F h1) (po_some (okP g F h2.1)) (po_some (okP g F h2.2))) fun σ H Q ⟨a, xs, e1, e2, q⟩ => ⟨_, e1, _, rfl, l, rfl, _, rfl, hi, rfl, a, xs, rfl, e2, q⟩
    · cases h2
  · cases h
theorem open_pss (g : Gd X c sc cl k W) (F : Fc X.prog X.w X.K X.mg X.base c cl k) (S : Sx X sc) {body : List Stmt} (h : openB c sc body = true) : PSs X body (tOpen X.K) := by
  have hN : X.N.Nodup := by rw [g.n]; exact g.nd
  unfold openB at h
  split at h
  · rename_i s1 s2 s3
    simp only [Bool.and_eq_true] at h
    obtain ⟨h1, h2, h3⟩ := h
    split at h1
    · rename_i t a hv
      obtain ⟨p, rfl⟩ := vAsg_ok hv
      simp only [Bool.and_eq_true] at h1
      obtain ⟨h4, h5⟩ := h1
      split at h4
      · rename_i x hx
        obtain ⟨px, rfl⟩ := vName_ok hx
        simp only [Bool.and_eq_true, decide_eq_true_eq] at h4
        split at h5
        · rename_i n y hc
          obtain ⟨pc, qc, rfl⟩ := vCall_ok hc
          simp only [Bool.and_eq_true, decide_eq_true_eq] at h5
          obtain ⟨⟨rfl, h6, h7⟩, h8⟩ := h5
          obtain ⟨hg, hm⟩ := freeB_ok g F h6
          split at h2
          · rename_i tg it b hf
            obtain ⟨pf, rfl⟩ := vFor_ok hf
            simp only [Bool.and_eq_true] at h2
            obtain ⟨⟨h9, h10⟩, h11, h12⟩ := h2
            split at h11
            · rename_i n2 y2 hc2
              obtain ⟨pc2, qc2, rfl⟩ := vCall_ok hc2
              simp only [Bool.and_eq_true, decide_eq_true_eq] at h11
              obtain ⟨⟨h13, rfl, h14, h15⟩, h16⟩ := h11
              obtain ⟨ts, kt, pt, rfl⟩ := vTup_some h13
              obtain ⟨hg2, hm2⟩ := freeB_ok g F h14
              split at h3
              · rename_i e he
                obtain ⟨pr, rfl⟩ := vRet_ok he
                split at h3
                · rename_i x1 y1 z1 hl
                  obtain ⟨pl, rfl⟩ := vLst_ok hl
                  simp only [Bool.and_eq_true] at h3
                  obtain ⟨⟨q1, q2⟩, ⟨q3, q4⟩, q5, q6⟩ := h3
                  have hi : X.N[1]? = some x := by rw [g.n]; exact h4.1
                  have hloc : Loc X.env.scope x ∧ (X.fn x = true ∨ X.env.scope.names.lookup x = some .local) := by
                    have h4 := h4.2
                    unfold lcB at h4
                    split at h4
                    · rename_i e
                      exact ⟨.inl (S.own.lo x e), .inr (S.own.lo x e)⟩
                    · rename_i e
                      exact ⟨.inr (S.own.ce x e).1, .inl (S.own.ce x e).2⟩
                    · cases h4
                  refine PSs.imp (pss_cons (ps_set hN hi hloc.1 (pe_callTy call_list_of hg hm PyProof.Rows.boot_list (pa_cons (pe_slc g F h8) pa_nil (starEach_of h7)) (by decide) (by decide) (starEach_of h7) rfl) (swaps_of rfl) hloc.2)
                    (pss_cons (ps_for S.po g.calm (pi_enum hg2 hm2 (pa_cons (pe_slc g F h16) pa_nil (starEach_of h15)) (starEach_of h15)) (pg_tg g.calm hN g.n S.own h9) (pss_cons (ps_setP g F h12) pss_nil) (folded_of h10))
                    (pss_cons (ps_ret (pe_lst (pa_cons (okP g F q1) (pa_cons (okP g F q3) (pa_cons (okP g F q5) pa_nil (starEach_of q6)) (starEach_of q4)) (starEach_of q2)))) pss_nil))) fun T σ H q => ?_
                  obtain ⟨a, xs, e1, e2, q⟩ := q
                  refine ⟨a, xs, e1, e2, fun p hp => ?_⟩
                  obtain ⟨p', ys, e3, e4, q⟩ := q p hp
                  refine ⟨p', ys, by rw [e3], .inl (SqL.of e4), fun l hl => ?_⟩
                  obtain ⟨a, xs, e1, e2, q⟩ := q l hl
                  refine ⟨a, xs, e1, e2, fun p hp => ?_⟩
                  obtain ⟨a, xs, e1, e2, W', w0, turn⟩ := q p hp
                  refine ⟨a, xs, by rw [e1], SqL.of e2, W', w0, fun i m σ H w => ?_⟩
                  rcases turn i m σ H w with ⟨st, x1, e1, q⟩ | q
                  · refine .inl ⟨st, x1, e1, .int 0, rfl, .int 0, rfl, by show 3 ≤ sizeLine; decide, q⟩
                  · refine .inr ?_
                    obtain ⟨go, Nx, hn, stp⟩ := q
                    exact ⟨go, Nx, hn, stp⟩
                · cases h3
              · cases h3
            · cases h11
          · cases h2
        · cases h5
      · cases h4
    · cases h1
  · cases h
end
end Mi
end
section
set_option linter.all false
set_option maxRecDepth 100000
set_option Elab.async false
set_option maxHeartbeats 2000000
/-! The pen is made: what comes. -/
namespace Mi
open PySem PySem.Spec PyProof.Rows L2
def Up (H H' : Hp) : Prop := ∀ b o, H b = some o → H' b = some o
theorem Up.new {H H1 : Hp} {p : Addr} {o : HO} (u : Up H H1) (h : H1 p = none) : Up H (upd H1 p o) := fun b o' e => by rw [upd_ne (ne_of_none (u b o' e) h)]; exact u b o' e
theorem Up.put {H H1 : Hp} {p : Addr} {o : HO} (u : Up H H1) (h : H p = none) : Up H (upd H1 p o) := fun b o' e => by rw [upd_ne (ne_of_none e h)]; exact u b o' e
theorem sqL_up {K : PySem.W.Frag} {H H' : Hp} {a : Addr} {xs : List V} (h : SqL K H a xs) (u : Up H H') : SqL K H' a xs := by
  rcases h with (h | ⟨o, h⟩) | h
  · exact .inl (.inl (u _ _ h))
  · exact .inl (.inr ⟨o, u _ _ h⟩)
  · exact .inr h
def stO (a : Addr) (v1 v2 v3 : Option V) : L2.St := [some (.ref a), v1, v2, v3]
theorem cut12 (xs : List V) : (cutV xs none (some 12)).length ≤ 12 ∧ ((cutV xs (some 12) (some 63)) ≠ [] → (cutV xs none (some 12)).length = 12) := by
  have e1 : HT.sIx xs.length xs.length (some 12) = min 12 xs.length := HT.sIx_nat _ _ 12
  have e2 : HT.sIx xs.length 0 (some 12) = min 12 xs.length := HT.sIx_nat _ _ 12
  have e3 : HT.sIx xs.length xs.length (some 63) = min 63 xs.length := HT.sIx_nat _ _ 63
  unfold cutV
  rw [e1, e2, e3, HT.sIx_none]
  refine ⟨by rw [List.length_take, List.length_drop]; omega, fun h => ?_⟩
  have hl : 12 < xs.length := by
    by_cases z : 12 < xs.length
    · exact z
    · refine absurd ?_ h
      apply List.eq_nil_of_length_eq_zero
      rw [List.length_take, List.length_drop]
      omega
  rw [List.length_take, List.length_drop]
  omega
theorem cut_mem {xs : List V} {lo hi : Option Int} {i : Nat} {v : V} (h : (cutV xs lo hi)[i]? = some v) : v ∈ xs := by
  have := List.mem_of_getElem? h
  unfold cutV at this
  exact List.mem_of_mem_drop (List.mem_of_mem_take this)
theorem at_ixl {H : Hp} {σ : L2.St} {e d : PX} {p : Addr} {zs : List Int} {z : Int} (hd : PX.at σ H d = some (.ref p)) (hp : H p = some (.lst (zs.map V.int))) (he : PX.at σ H e = some (.int z)) (h0 : 0 ≤ z) (h1 : z.toNat < zs.length) :
    PX.at σ H (.ix d e) = some (.int zs[z.toNat]) := by
  show (match PX.at σ H d, PX.at σ H e with | some (.ref p), some (.int z) => (match H p with | some (.lst xs) => L2.atI xs z | _ => none) | _, _ => none) = _
  rw [hd, he]
  show (match H p with | some (.lst xs) => L2.atI xs z | _ => none) = _
  rw [hp]
  show L2.atI (zs.map V.int) z = _
  unfold L2.atI L2.ixN
  rw [List.length_map, if_pos h0, if_pos (by omega)]
  show (zs.map V.int)[z.toNat]? = _
  rw [List.getElem?_map, List.getElem?_eq_getElem h1]
  rfl
theorem open_ok {K : PySem.W.Frag} {H : Hp} {a : Addr} {ns : List Int} {Q : VK} (ha : SqL K H a (ns.map V.int))
    (hq : ∀ (p c : Addr) (zs : List Int) (H' : Hp), c ≠ p → H p = none → H c = none → zs.length ≤ 12 → Up H H' → H' p = some (.lst [.ref c, .int 0, .int 0]) → H' c = some (.lst (zs.map V.int)) → Q (.ref p) H') :
    tOpen K { nx := fun _ H' => Q .non H', rt := Q } (stO a none none none) H := by
  refine ⟨a, _, rfl, ha, fun p1 hp1 => ⟨p1, _, rfl, upd_same, fun l hl => ?_⟩⟩
  have u1 : Up H (upd H p1 (.lst (cutV (ns.map V.int) none (some 12)))) := Up.new (fun _ _ e => e) hp1
  have u2 : Up H (upd (upd H p1 (.lst (cutV (ns.map V.int) none (some 12)))) l (.lst (cutV (ns.map V.int) none (some 12)))) := u1.new hl
  have hl0 : H l = none := by
    cases e : H l with
    | none => rfl
    | some o =>
      have := u1 l o e
      rw [hl] at this
      cases this
  refine ⟨a, _, rfl, sqL_up ha u2, fun p2 hp2 => ⟨p2, _, rfl, upd_same, ?_⟩⟩
  have hlp : l ≠ p2 := fun z => by rw [← z, upd_same] at hp2; cases hp2
  have hp20 : H p2 = none := by
    cases e : H p2 with
    | none => rfl
    | some o =>
      have := u2 p2 o e
      rw [hp2] at this
      cases this
  have u3 : Up H (upd (upd (upd H p1 (.lst (cutV (ns.map V.int) none (some 12)))) l (.lst (cutV (ns.map V.int) none (some 12)))) p2 (.lst (cutV (ns.map V.int) (some 12) (some 63)))) := u2.new hp2
  obtain ⟨c1, c2⟩ := cut12 (ns.map V.int)
  have isInt : ∀ (lo hi : Option Int) (i : Nat) (v : V), (cutV (ns.map V.int) lo hi)[i]? = some v → ∃ z, v = V.int z := fun lo hi i v h => by
    obtain ⟨z, _, e⟩ := List.mem_map.mp (cut_mem h)
    exact ⟨z, e.symm⟩
  have ys : ∃ zs : List Int, cutV (ns.map V.int) none (some 12) = zs.map V.int := by
    refine ⟨(ns.drop 0).take (HT.sIx ns.length ns.length (some 12)), ?_⟩
    unfold cutV
    rw [HT.sIx_none, List.length_map, List.drop_zero, List.drop_zero, List.map_take]
    rfl
  obtain ⟨zs0, hz0⟩ := ys
  refine for_it (walk_enum (K := K) (a := p2) (xs := cutV (ns.map V.int) (some 12) (some 63))) (fun i σ H' => ∃ v2 v3, ∃ zs : List Int, σ = stO a (some (.ref l)) v2 v3 ∧ Up H H' ∧ H' l = some (.lst (zs.map V.int)) ∧ H' p2 = some (.lst (cutV (ns.map V.int) (some 12) (some 63))) ∧ zs.length = zs0.length)
    ⟨none, none, zs0, rfl, u3, by rw [upd_ne hlp, upd_same, hz0], upd_same, rfl⟩ (fun i σ H' _ ⟨_, _, _, _, _, _, h, _⟩ => SqL.of h) ?_ ?_
  · rintro i v σ H1 H2 hi ⟨v2, v3, zs, rfl, u, e1, e2, e3⟩ ⟨T, x1, x2, rfl, hT, rfl, y1, y2⟩
    cases y1
    obtain ⟨z, rfl⟩ := isInt _ _ _ _ y2
    have hne : cutV (ns.map V.int) (some 12) (some 63) ≠ [] := fun z => by rw [z] at y2; simp at y2
    have h12 : zs.length = 12 := by
      have := c2 hne
      rw [hz0, List.length_map] at this
      omega
    have nlT : l ≠ T := ne_of_none e1 hT
    have npT : p2 ≠ T := ne_of_none e2 hT
    refine .inl ⟨T, _, rfl, SqT.of upd_same, rfl, gNs_of rfl ?_⟩
    have f1 : upd H1 T (.tup [.int (i : Nat), .int z]) l = some (.lst (zs.map V.int)) := by rw [upd_ne nlT]; exact e1
    have hj0 : (0 : Int) ≤ (i : Int) % 12 := Int.emod_nonneg _ (by decide)
    have hj1 : (i : Int) % 12 < 12 := Int.emod_lt_of_pos _ (by decide)
    have hm : PX.at (stO a (some (.ref l)) (some (.int (i : Nat))) (some (.int z))) (upd H1 T (.tup [.int (i : Nat), .int z])) (.bin .mod (.toInt (.var 2)) (.int 12)) = some (.int ((i : Int) % 12)) := at_bin (i := (i : Int)) (j := 12) (at_int rfl) rfl (show (if (0 : Int) < 12 then some ((i : Int) % 12) else none) = _ from if_pos (by decide))
    have hlt : ((i : Int) % 12).toNat < zs.length := by omega
    have hx : L2.ixN (zs.map V.int).length ((i : Int) % 12) = some ((i : Int) % 12).toNat := by
      unfold L2.ixN
      rw [List.length_map, if_pos hj0, if_pos (by omega)]
    have hc : PX.at (stO a (some (.ref l)) (some (.int (i : Nat))) (some (.int z))) (upd H1 T (.tup [.int (i : Nat), .int z])) (.ix (.var 1) (.bin .mod (.toInt (.var 2)) (.int 12))) = some (.int zs[((i : Int) % 12).toNat]) := by
      exact at_ixl rfl f1 hm hj0 hlt
    refine ⟨_, at_bin hc rfl rfl, _, rfl, _, hm, l, _, _, _, rfl, rfl, f1, hx, ?_⟩
    refine ⟨_, _, zs.set ((i : Int) % 12).toNat (zs[((i : Int) % 12).toNat] + z), rfl, (u.new hT).put hl0, by rw [upd_same, List.map_set], by rw [upd_ne (fun q => hlp q.symm), upd_ne npT]; exact e2, by rw [List.length_set]; exact e3⟩
  · rintro σ H1 ⟨v2, v3, zs, rfl, u, e1, e2, e3⟩
    refine ⟨.ref l, rfl, fun p hp => ?_⟩
    have hlp' : l ≠ p := ne_of_none e1 hp
    have hp0 : H p = none := by
      cases e : H p with
      | none => rfl
      | some o =>
        have := u p o e
        rw [hp] at this
        cases this
    have hz : zs.length ≤ 12 := by
      rw [hz0, List.length_map] at c1
      omega
    exact hq p l zs _ hlp' hp0 hl0 hz (u.new hp) upd_same (by rw [upd_ne hlp']; exact e1)
end Mi
end
section
set_option linter.all false
set_option maxRecDepth 100000
set_option Elab.async false
set_option maxHeartbeats 2000000
/-! The law's own def, its call. -/
namespace Mi
open PySem PySem.Spec PyProof.Rows L2
def spOpen (K : PySem.W.Frag) : Sp := fun vs H Q E => ∃ (a : Addr) (ns : List Int), vs = [V.ref a] ∧ SqL K H a (ns.map V.int) ∧
  ∀ (p c : Addr) (zs : List Int) (H' : Hp), c ≠ p → H p = none → H c = none → zs.length ≤ 12 → Up H H' → H' p = some (.lst [.ref c, .int 0, .int 0]) → H' c = some (.lst (zs.map V.int)) → Q (.ref p) H'
theorem open_fn {P : Program} {w : World} {K : PySem.W.Frag} {mg : Str → Option Value} {base : Heap} {c : Cfg} {cl : Cl} {k : Nat} {N : List Str} (F : Fc P w K mg base c cl k)
    {f : Addr} {name qual : Str} {params : Arguments} {body : List Stmt} {scope : Scope} {dV kV doc pm cdv ct oc : Value} {an od : Option Addr} {osl : Array (Option Value)} {ps : List Str}
    (h1 : K.lookup f = some ⟨oc, od, .func (PySem.W.fnOf name qual params body scope dV kV doc pm an cdv ct), osl⟩) (h2 : PySem.W.codeIn K cdv qual = true) (h3 : FnScope N ps scope) (hN : N.length = 4) (hps : ps.length = 1) (hb : openB { c with N := N, dn := false } scope body = true) :
    FnG true P w K mg base (k + 1) f (PySem.W.fnOf name qual params body scope dV kV doc pm an cdv ct) ps (spOpen K) := by
  refine fnG_of h1 h2 h3 (fun vs H Q E ⟨a, ns, e, _⟩ => by rw [e, hps]; rfl) fun A outer s H vs Q E hr hgu hsp => ?_
  have tk : Takes (cxOf (L2.CX P w) P w K mg base N qual scope f cdv A outer s H E) (fun cls d _ H => E cls d H) := takes_of rfl rfl rfl rfl
  have gd : Gd (cxOf (L2.CX P w) P w K mg base N qual scope f cdv A outer s H E) { c with N := N, dn := false } scope cl k (fun cls d _ H => E cls d H) := ⟨rfl, h3.nd, rfl, rfl, hr, fun _ => hgu rfl, tk, fun z => nomatch z⟩
  have sx : Sx (cxOf (L2.CX P w) P w K mg base N qual scope f cdv A outer s H E) scope := ⟨⟨fun x h => h, fun x h => ⟨h, rfl⟩⟩, passes_of rfl, h3.kind, rfl, rfl, rfl, rfl⟩
  refine ⟨_, open_pss gd (F.names N) sx hb, ?_⟩
  obtain ⟨a, ns, rfl, ha, hq⟩ := hsp
  have e2 : L2.start N [V.ref a] = stO a none none none := by
    unfold L2.start stO
    rw [hN]
    rfl
  rw [e2]
  exact open_ok ha hq
/-! ### the law -/
def spLaw (K : PySem.W.Frag) (τ : Tbs) : Sp := fun vs H Q E => ∃ (a : Addr) (ns : List Int), vs = [V.ref a] ∧ SqL K H a (ns.map V.int) ∧ LamX.Tabs τ.t H ∧ ∀ H', Q (.bl true) H'
/-- pen = _law_open(script) -/
def penB (c : Cfg) (sc : Scope) (x : Str) (st : Stmt) : Bool := match vAsg st with
  | some (t, a) => (match vName t with
    | some y => decide (c.N[1]? = some y) && lcB sc y
    | none => false) && (match vCall a with
    | some (n, [y]) => (decide (n = x) && (glB sc n && okN n)) && (chkP c sc (.var 0) y && notStar y)
    | _ => false)
  | none => false
def lawS (n : Nat) : Gs := none :: some (.pen, false) :: List.replicate (n - 2) none
theorem law_fn {P : Program} {w : World} {K : PySem.W.Frag} {mg : Str → Option Value} {base : Heap} {c : Cfg} {cl : Cl} {k : Nat} {N : List Str} (F : Fc P w K mg base c cl k) (T : TbOk K mg base c) (dn : Bool)
    {f : Addr} {name qual : Str} {params : Arguments} {st : Stmt} {body : List Stmt} {scope : Scope} {dV kV doc pm cdv ct oc : Value} {an od : Option Addr} {osl : Array (Option Value)} {ps : List Str}
    (h1 : K.lookup f = some ⟨oc, od, .func (PySem.W.fnOf name qual params (st :: body) scope dV kV doc pm an cdv ct), osl⟩) (h2 : PySem.W.codeIn K cdv qual = true) (h3 : FnScope N ps scope) (hN : 2 ≤ N.length) (hps : ps.length = 1)
    {x : Str} {fo : Addr} {fd : FuncData} {pso : List Str} (o1 : mg x = some (.ref fo)) (o2 : PySem.W.keepIn K (.ref fo) = true) (o3 : Binds K fd pso []) (o4 : pso.length = 1) (o5 : FnG true P w K mg base k fo fd pso (spOpen K))
    {cs : Cs} (hb : penB { c with N := N, dn := dn } scope x st = true) (hc : chkCs { c with N := N, dn := dn } scope cs body = true)
    (hz : dn = true → qual ∈ c.tf ∧ cdv = .ref (He.cT K (qual, none)).1) (hm : (exs cl c.tb cs (lawS N.length)).wp 1000000 (fun _ fl => fl = .ret (.bl true)) (fun _ _ => False)) :
    FnG true P w K mg base (k + 3) f (PySem.W.fnOf name qual params (st :: body) scope dV kV doc pm an cdv ct) ps (spLaw K (c.T K)) := by
  refine fnG_of h1 h2 h3 (fun vs H Q E ⟨a, ns, e, _⟩ => by rw [e, hps]; rfl) fun A outer s H vs Q E hr hgu hsp => ?_
  have tk : Takes (cxOf (L2.CX P w) P w K mg base N qual scope f cdv A outer s H E) (fun cls d _ H => E cls d H) := takes_of rfl rfl rfl rfl
  have gd : Gd (cxOf (L2.CX P w) P w K mg base N qual scope f cdv A outer s H E) { c with N := N, dn := dn } scope cl k (fun cls d _ H => E cls d H) := by
    refine ⟨rfl, h3.nd, rfl, rfl, hr.mono (by omega), fun _ => hgu rfl, tk, fun z => ?_⟩
    obtain ⟨hx, rfl⟩ := hz z
    refine ⟨⟨_, _, rfl, T.tb _ hx, List.mem_map.mpr ⟨_, hx, rfl⟩, fun p hp e => ?_⟩, hr⟩
    obtain ⟨y, hy, rfl⟩ := List.mem_map.mp hp
    rw [nodup_inj T.nd hy hx e]
    rfl
  have FN : Fc P w K mg base { c with N := N, dn := dn } cl k := ⟨F.defs, F.cons, F.tabs, F.free, F.excs, F.key, F.lam, F.isx, F.exm⟩
  have sx : Sx (cxOf (L2.CX P w) P w K mg base N qual scope f cdv A outer s H E) scope := ⟨⟨fun x h => h, fun x h => ⟨h, rfl⟩⟩, passes_of rfl, h3.kind, rfl, rfl, rfl, rfl⟩
  have rest := okCs { c with N := N, dn := dn } cl k cs _ scope _ body gd FN sx hc
  unfold penB at hb
  split at hb
  · rename_i t a hv
    obtain ⟨p, rfl⟩ := vAsg_ok hv
    simp only [Bool.and_eq_true] at hb
    obtain ⟨hb1, hb2⟩ := hb
    split at hb1
    · rename_i y hy
      obtain ⟨py, rfl⟩ := vName_ok hy
      simp only [Bool.and_eq_true, decide_eq_true_eq] at hb1
      split at hb2
      · rename_i n z hcl
        obtain ⟨pp, qq, rfl⟩ := vCall_ok hcl
        simp only [Bool.and_eq_true, decide_eq_true_eq] at hb2
        obtain ⟨⟨rfl, g1, g2⟩, g3, g4⟩ := hb2
        have hx0 : Passes (L2.CX P w) (cxOf (L2.CX P w) P w K mg base N qual scope f cdv A outer s H E) (fun _ _ _ => False) := fun pins σ H s e s' I ⟨_, _, _, _, _, _, _, _, _, _, _, _, q⟩ => q.elim
        have pc := pe_callG (p := pp) (pos := qq) o5 (hr.mono (by omega)) hgu (Gl_of gd g1) o1 o2 o3 hx0 (pa_cons (okP gd FN g3) pa_nil (starEach_of g4)) (okN_ok g2).1 (starEach_of g4) (star_any rfl)
        have hloc : Loc scope y ∧ (True ∨ scope.names.lookup y = some .local) := by
          have h4 := hb1.2
          unfold lcB at h4
          split at h4
          · rename_i e
            exact ⟨.inl e, .inr e⟩
          · rename_i e
            exact ⟨.inr e, .inl True.intro⟩
          · cases h4
        have ps1 := ps_set (pos := p) (pos' := py) gd.nd hb1.1 hloc.1 pc (swaps_of rfl) (.inl rfl)
        refine ⟨_, pss_cons ps1 rest, ?_⟩
        obtain ⟨a, ns, rfl, ha, ht, hq⟩ := hsp
        have hl : (L2.start N [V.ref a]).length = N.length := startV_len (by show 1 ≤ N.length; omega)
        refine ⟨.ref a, ?_, a, ns, rfl, ha, fun p' c' zs H' n1 n2 n3 n4 u e1 e2 => ?_⟩
        · show (L2.start N [V.ref a])[0]?.join = _
          rw [startV_get (vs := [V.ref a]) (i := 0) rfl]
          rfl
        · have hk : Hk ⟨p', c'⟩ 1000000 H' := ⟨n1, zs, 0, 0, e1, e2, n4, Int.le_refl _, by decide, ht.ext (fun b o e => u b o e)⟩
          have no : ∀ i b, ¬ OwnAt (lawS N.length) ((L2.start N [V.ref a]).set 1 (some (.ref p'))) i b := fun i b ⟨d, h, _⟩ => by
            match i, h with
            | 0, h => cases h
            | 1, h => cases h
            | i + 2, h =>
              have h : (List.replicate (N.length - 2) none)[i]? = some (some (d, true)) := h
              obtain ⟨z, e⟩ := List.getElem?_eq_some_iff.mp h
              rw [List.getElem_replicate] at e
              cases e
          refine ⟨lawS N.length, fun _ _ => True, ⟨p', c'⟩, fun q => q = p', H', 1000000, ⟨⟨rfl, fun q hq => ⟨.lst [.ref c', .int 0, .int 0], by rw [show q = p' from hq]; exact e1, by intro ps w; cases w⟩, ⟨_, e1, by intro ps w; cases w⟩, ⟨_, e2, by intro ps w; cases w⟩⟩, hk, Ex.refl, ?_, fun i d h => ?_, fun i d h => ?_, fun i j b h _ => (no i b h).elim, fun _ _ _ _ _ _ => True.intro, True.intro⟩, Tr.wp_mono (fun b1 fl hf => ?_) (fun _ _ z => z.elim) _ _ hm⟩
          · rw [List.length_set, hl]
            show (List.replicate (N.length - 2) none).length + 1 + 1 ≤ N.length
            rw [List.length_replicate]
            omega
          · match i, h with
            | 0, h => cases h
            | 1, h =>
              cases h
              exact ⟨.ref p', List.getElem?_set_self (by rw [hl]; omega), .pen⟩
            | i + 2, h =>
              have h : (List.replicate (N.length - 2) none)[i]? = some (some (d, false)) := h
              obtain ⟨z, e⟩ := List.getElem?_eq_some_iff.mp h
              rw [List.getElem_replicate] at e
              cases e
          · match i, h with
            | 0, h => cases h
            | 1, h => cases h
            | i + 2, h =>
              have h : (List.replicate (N.length - 2) none)[i]? = some (some (d, true)) := h
              obtain ⟨z, e⟩ := List.getElem?_eq_some_iff.mp h
              rw [List.getElem_replicate] at e
              cases e
          · subst hf
            intro v H'' _ _ rv
            cases rv
            exact hq _
      · cases hb2
    · cases hb1
  · cases hb
end Mi
end
section
set_option linter.all false
set_option maxRecDepth 100000
set_option Elab.async false
set_option maxHeartbeats 2000000
/-! The law is called at the heap behind the top. -/
namespace Mi
open PySem PySem.Spec PyProof.Rows L2
section
variable {P : Program} {w : World} {K : PySem.W.Frag} {mg mb : Str → Option Value} {k : Nat} {fa a : Addr} {fd : FuncData} {x : Str} {s1 : Shared} {vs : List Value} {ns : List Int}
/-- what the call is to bring -/
def Good (s1 : Shared) : Result → Shared → Prop := fun r s' => r = .ok (.ret (.bool true)) ∧ OldK s1.heap s'.heap ∧ s'.os = s1.os ∧ AllBare s'.gens
/-- the code objects and their tables, as the top leaves them -/
structure Tab0 (K : PySem.W.Frag) (mg : Str → Option Value) (h : Heap) (cs : List (Addr × Addr)) (τ : Tbs) : Prop where
  hT : ∀ p ∈ cs, h.get? p.2 = some { cls := .none, data := .fields #[] }
  nT : ∀ p ∈ cs, K.lookup p.2 = none
  C : ∀ p ∈ cs, PySem.W.CodeHd h p.1 p.2
  bm : ∃ (bm : Addr) (ob : Obj), mg "__builtins__" = some (.ref bm) ∧ bm ≠ builtinsNs ∧ h.get? bm = some ob ∧ ob.cls = .type "module" ∧ ob.dict = some builtinsNs ∧ ob.data = .plain
  tm : ∀ p ∈ τ.t, p.1 ∈ cs.map (·.2)
/-- an abstract heap in which at most the script and the tables are known -/
structure Bare0 (P : Program) (w : World) (K : PySem.W.Frag) (s1 : Shared) (a : Addr) (ns : List Int) (cs : List (Addr × Addr)) (H : Hp) : Prop where
  only : ∀ b, H b = none ∨ b ∈ cs.map (·.2) ∨ ∃ o xs, H b = some (.frz o (.lst xs))
  tbl : ∀ p ∈ cs, H p.2 = some (.tbl #[])
  sq : SqL K H a (ns.map V.int)
  hok : HOk P w H s1.heap
  at_ : ∀ b, H b ≠ none → b = a ∨ b ∈ cs.map (·.2)
  out : H a ≠ none → K.lookup a = none
theorem run0 {cs : List (Addr × Addr)} {τ : Tbs} {H : Hp} (T0 : Tab0 K mg s1.heap cs τ) (Z : Bare0 P w K s1 a ns cs H) (KX : K.In s1.heap) (hns : s1.heap.Ns mainGlobals mg) (hb : s1.heap.Ns builtinsNs mb) (hbb : ∀ x : Str, x ≠ "__name__" → mb x = bootBuiltins x) (hlim : s1.heap.NoLimit) (hg : s1.gens = #[])
    (ha : s1.heap.get? a = some { cls := .type "list", data := .seq vs.toArray }) (hr : Room k callerA)
    (F : ∀ base : Heap, Mod K mg base → (∀ p ∈ cs, LamX.TabB base mg p.1 p.2) → FnG true P w K mg base k fa fd [x] (spLaw K τ)) (hbind : ∀ (s : Shared) (u : Value), BindsTo s fd ⟨[u], []⟩ [(x, u)]) :
    codeAny (model P w) callerA (.call (.ref fa) ⟨[.ref a], []⟩) (Good s1) s1 := by
  have isT : ∀ b : Addr, b ∈ cs.map (·.2) → s1.heap.get? b = some { cls := .none, data := .fields #[] } := fun b hb => by
    obtain ⟨p, hp, e⟩ := List.mem_map.mp hb
    rw [← e]
    exact T0.hT p hp
  -- what is no list of the script's and no table stands in the ground
  have free : ∀ {b : Addr} {o : Obj}, s1.heap.get? b = some o → (∀ v n, o.data ≠ .seq v n) → o.data ≠ .fields #[] → H b = none := fun {b o} e hne hnf => by
    cases q : H b with
    | none => rfl
    | some u =>
      rcases Z.at_ b (by rw [q]; simp) with eb | eb
      · rw [eb, ha] at e
        cases e
        exact absurd rfl (hne _ _)
      · rw [isT b eb] at e
        cases e
        exact absurd rfl hnf
  have nsG : ∀ {b : Addr} {m : Str → Option Value}, s1.heap.Ns b m → (hidT s1.heap H).Ns b m := fun {b m} ⟨o, es, ep, e, d, r⟩ => ⟨o, es, ep, hidT_get e (free e (fun v n z => by rw [d] at z; cases z) fun z => by rw [d] at z; cases z), d, r⟩
  have KB : K.In (hidT s1.heap H) := fun b o e => hidT_get (KX b o e) (by
    cases q : H b with
    | none => rfl
    | some u =>
      rcases Z.at_ b (by rw [q]; simp) with eb | eb
      · subst eb
        rw [Z.out (by rw [q]; simp)] at e
        cases e
      · obtain ⟨p, hp, ep⟩ := List.mem_map.mp eb
        rw [← ep, T0.nT p hp] at e
        cases e)
  obtain ⟨mc, l1, l2⟩ := hlim
  have M : Mod K mg (hidT s1.heap H) := ⟨KB, nsG hns, ⟨mb, nsG hb, hbb⟩, ⟨mc, nsG l1, l2⟩⟩
  have TB : ∀ p ∈ cs, LamX.TabB (hidT s1.heap H) mg p.1 p.2 := fun p hp => by
    have hTp := T0.hT p hp
    refine ⟨?_, ?_, fun z => ?_⟩
    · obtain ⟨o, us, file, tf, flags, tg, inF, text, tt, e1, r1, r2, r3, r4, r5, r6, r7, r8, hne⟩ := T0.C p hp
      refine ⟨o, us, file, tf, flags, tg, inF, text, tt, hidT_get e1 (free e1 (fun vs n z => ?_) fun z => ?_), r1, r2, r3, r4, r5, r6, r7, r8, hne⟩
      · rw [r2] at z
        cases z
      · rw [r2] at z
        cases z
        simp at r3
    · obtain ⟨bm, ob, b1, b2, b3, b4, b5, b6⟩ := T0.bm
      have nG : bm ≠ mainGlobals := fun q => by
        obtain ⟨o, es, ep, e, hd, _⟩ := hns
        rw [q, e] at b3
        cases b3
        rw [hd] at b6
        cases b6
      have nP : bm ≠ p.2 := fun q => by
        rw [q, hTp] at b3
        cases b3
        cases b6
      refine ⟨bm, ob, b1, b2, nG, nP, hidT_get b3 (free b3 (fun vs n z => ?_) fun z => ?_), b4, b5, b6⟩
      · rw [b6] at z
        cases z
      · rw [b6] at z
        cases z
    · obtain ⟨o, es, ep, e, hd, _⟩ := hns
      rw [z, hTp] at e
      cases e
      cases hd
  have tabs : LamX.Tabs τ.t H := fun p hp => by
    obtain ⟨q, hq, e⟩ := List.mem_map.mp (T0.tm p hp)
    rw [← e]
    exact LamX.TabS.nil (Z.tbl q hq)
  have e0 : Env0 P w K mg (hidT s1.heap H) callerA [] s1 H := ⟨rfl, M, fun b o e => of_hidT e, Nat.le_of_eq (hidT_size _ _), trivial, fun b hb => absurd (show b ∈ ([] : List Addr) from hb) (by simp), Z.hok, by
    rw [hg]
    exact AllBare.empty⟩
  have sp : spLaw K τ [V.ref a] H (fun v _ => v = .bl true) (fun _ _ _ => False) := ⟨a, ns, rfl, Z.sq, tabs, fun _ => rfl⟩
  refine codeAny_mono ((F _ M TB).run callerA [] s1 H ⟨[.ref a], []⟩ [.ref a] [.ref a] _ _ hr (fun _ => rfl) e0 (hbind s1 (.ref a)) (.cons rfl .nil) sp) fun r s' h => ?_
  cases r with
  | error e =>
    obtain ⟨_, _, _, _, _, _, _, _, _, _, _, _, q⟩ := h
    exact q.elim
  | ok fl =>
    cases fl with
    | next => exact False.elim h
    | brk => exact False.elim h
    | cont => exact False.elim h
    | ret u =>
      obtain ⟨v, H', os, bare, un, hok', r', q⟩ := h
      have q' : v = .bl true := q
      subst q'
      obtain rfl : u = Value.bool true := r'
      have key : ∀ b o, b ∉ cs.map (·.2) → s1.heap.get? b = some o → s'.heap.get? b = some o := fun b o nb e => by
        cases q : H b with
        | none => exact un.keep b o e q (by intro z; exact absurd (show b ∈ ([] : List Addr) from z) (by simp)) (by simp)
        | some u =>
          rcases Z.only b with z | z | ⟨ob, xs, z⟩
          · rw [q] at z
            cases z
          · exact absurd z nb
          · obtain ⟨e1, _⟩ := Z.hok b _ z
            obtain ⟨e2, _⟩ := hok' b _ (un.frzs b ob _ z)
            rw [e] at e1
            cases e1
            exact e2
      have grown : ∀ p ∈ cs, ∃ more : Array Value, s'.heap.get? p.2 = some { cls := .none, data := .fields more } := fun p hp => by
        obtain ⟨more, z⟩ := un.tbls p.2 #[] (Z.tbl p hp)
        exact ⟨_, hok' p.2 _ z⟩
      refine ⟨rfl, ⟨fun b o e => ?_, fun b o e => ?_⟩, os, bare⟩
      · by_cases hb : b ∈ cs.map (·.2)
        · obtain ⟨p, hp, ep⟩ := List.mem_map.mp hb
          obtain ⟨more, hm⟩ := grown p hp
          rw [← ep] at e ⊢
          rw [T0.hT p hp] at e
          cases e
          exact .inr (.inl ⟨((T0.C p hp).tab (T0.hT p hp)).isCodeTable, rfl, #[], more, rfl, by rw [Array.empty_append]; exact hm⟩)
        · exact .inl (key b o hb e)
      · by_cases hb : b ∈ cs.map (·.2)
        · obtain ⟨p, hp, ep⟩ := List.mem_map.mp hb
          obtain ⟨more, hm⟩ := grown p hp
          rw [← ep]
          exact ⟨_, hm⟩
        · exact ⟨o, key b o hb e⟩
theorem run1 {cs : List (Addr × Addr)} {τ : Tbs} (T0 : Tab0 K mg s1.heap cs τ) (KX : K.In s1.heap) (hns : s1.heap.Ns mainGlobals mg) (hb : s1.heap.Ns builtinsNs mb) (hbb : ∀ x : Str, x ≠ "__name__" → mb x = bootBuiltins x) (hlim : s1.heap.NoLimit) (hg : s1.gens = #[])
    (ha : s1.heap.get? a = some { cls := .type "list", data := .seq vs.toArray }) (hi : IntsAre vs ns) (hl : ns.length ≤ sizeLine) (hr : Room k callerA)
    (F : ∀ base : Heap, Mod K mg base → (∀ p ∈ cs, LamX.TabB base mg p.1 p.2) → FnG true P w K mg base k fa fd [x] (spLaw K τ)) (hbind : ∀ (s : Shared) (u : Value), BindsTo s fd ⟨[u], []⟩ [(x, u)]) :
    codeAny (model P w) callerA (.call (.ref fa) ⟨[.ref a], []⟩) (Good s1) s1 := by
  have rv := vals_ints hi
  have lenV := hi.length
  have isT : ∀ b : Addr, b ∈ cs.map (·.2) → s1.heap.get? b = some { cls := .none, data := .fields #[] } := fun b hb => by
    obtain ⟨p, hp, e⟩ := List.mem_map.mp hb
    rw [← e]
    exact T0.hT p hp
  have aT : a ∉ cs.map (·.2) := fun z => by
    have q := isT a z
    rw [ha] at q
    have z' : Data.seq vs.toArray _ = Data.fields #[] := congrArg Obj.data (Option.some.inj q)
    cases z'
  have memT : ∀ p ∈ cs, p.2 ∈ cs.map (·.2) := fun p hp => List.mem_map.mpr ⟨p, hp, rfl⟩
  cases hk : K.lookup a with
  | some o =>
    have e := KX a o hk
    rw [ha] at e
    cases e
    refine run0 (cs := cs) (τ := τ) (H := fun b => if b ∈ cs.map (·.2) then some (.tbl #[]) else none) T0 ⟨fun b => ?_, fun p hp => if_pos (memT p hp), .inr ⟨_, vs.toArray, _, hk, rfl, rfl, rfl, by rw [List.size_toArray, lenV]; exact hl, by simpa using rv⟩, fun b u z => ?_, fun b z => ?_, fun z => absurd (if_neg aT) z⟩ KX hns hb hbb hlim hg ha hr F hbind
    · by_cases hb : b ∈ cs.map (·.2)
      · exact .inr (.inl hb)
      · exact .inl (if_neg hb)
    · by_cases hb : b ∈ cs.map (·.2)
      · have z' := (if_pos hb).symm.trans z
        cases z'
        exact isT b hb
      · have z' := (if_neg hb).symm.trans z
        cases z'
    · by_cases hb : b ∈ cs.map (·.2)
      · exact .inr hb
      · exact absurd (if_neg hb) z
  | none =>
    refine run0 (cs := cs) (τ := τ) (H := fun b => if b = a then some (.frz { cls := .type "list", data := .seq vs.toArray } (.lst (ns.map V.int))) else if b ∈ cs.map (·.2) then some (.tbl #[]) else none) T0 ⟨fun b => ?_, fun p hp => (if_neg (show ¬ p.2 = a from fun z => aT (by rw [← z]; exact memT p hp))).trans (if_pos (memT p hp)), .inl (.inr ⟨{ cls := .type "list", data := .seq vs.toArray }, if_pos rfl⟩), fun b u z => ?_, fun b z => ?_, fun _ => hk⟩ KX hns hb hbb hlim hg ha hr F hbind
    · by_cases hb : b = a
      · exact .inr (.inr ⟨_, _, if_pos hb⟩)
      · by_cases hb2 : b ∈ cs.map (·.2)
        · exact .inr (.inl hb2)
        · exact .inl ((if_neg hb).trans (if_neg hb2))
    · by_cases hb : b = a
      · have z' := (if_pos hb).symm.trans z
        cases z'
        subst hb
        exact ⟨ha, by rw [List.length_map]; exact hl, vs, _, rv, ha⟩
      · have z1 := (if_neg hb).symm.trans z
        by_cases hb2 : b ∈ cs.map (·.2)
        · have z' := (if_pos hb2).symm.trans z1
          cases z'
          exact isT b hb2
        · have z' := (if_neg hb2).symm.trans z1
          cases z'
    · by_cases hb : b = a
      · exact .inl hb
      · by_cases hb2 : b ∈ cs.map (·.2)
        · exact .inr hb2
        · exact absurd ((if_neg hb).trans (if_neg hb2)) z
end
/-- a law's end: F gives the written part, the function object, its promise over every base -/
theorem walk_ofM {l : PySem.W.OpenLaw} {n k : Nat} {q : Program} {loose : List Str} {XP : (Str → Option Value) → Heap → Prop} {YP : World → Heap → Prop} {d : DefRec} {x : Str}
    (hn : l.most = some n) (hn2 : n ≤ sizeLine) (hdf : d.params.defaults = []) (hr : Room k callerA)
    (F : ∀ (w : World) (mg : Str → Option Value) (fa : Addr) (h : Heap), YP w h → h.Ns mainGlobals mg → mg d.name = some (.ref fa) →
      ∃ (K : PySem.W.Frag) (fd : FuncData) (cs : List (Addr × Addr)) (τ : Tbs), K.In h ∧ ((∃ (bm : Addr) (ob : Obj), mg "__builtins__" = some (.ref bm) ∧ bm ≠ builtinsNs ∧ h.get? bm = some ob ∧ ob.cls = .type "module" ∧ ob.dict = some builtinsNs ∧ ob.data = .plain) → Tab0 K mg h cs τ) ∧ (∀ (s : Shared) (u : Value), BindsTo s fd ⟨[u], []⟩ [(x, u)]) ∧ ∀ base : Heap, Mod K mg base → (∀ p ∈ cs, LamX.TabB base mg p.1 p.2) → FnG true l.prog w K mg base k fa fd [x] (spLaw K τ)) :
    PySem.W.WalkO q loose XP YP l.row.toRowW d [] (fun f vs => PySem.call f vs) := by
  refine Att.attach_call hn hdf fun w s₀ s₁ mg mb fa o pm cd doc a vs ns G Y ho hd hcd hmg hobj hints hlen hg => ?_
  obtain ⟨K, fd, cs, τ, KX, T0, hb, hF⟩ := F w mg fa _ Y G.T.g hmg
  exact run1 (T0 G.T.bmain) KX G.T.g G.T.b G.T.builtins G.T.nolimit hg hobj hints (Nat.le_trans hlen hn2) hr hF hb
end Mi
end
section
set_option linter.all false
set_option maxRecDepth 100000
set_option Elab.async false
set_option maxHeartbeats 2000000
/-! The classes of errors: what the head is asked of them. -/
namespace Mi.Tk
open PySem PySem.Spec PyProof.Rows L2
abbrev zNames : List Str := ["NoWord", "NoPlace", "NoTread", "NoPower", "TooGreat", "NoMatch", "NoNumber", "NoMakers", "NoWalk", "NoAnswers", "NoWishes", "NoUndo", "NoThings"]
def wWord : S := [119, 111, 114, 100]
def wPlace : S := [112, 108, 97, 99, 101]
def wTread : S := [116, 114, 101, 97, 100]
def wPower : S := [112, 111, 119, 101, 114]
def wGreat : S := [103, 114, 101, 97, 116]
def wOdd : S := [111, 100, 100]
def zWords : List S := [wWord, wPlace, wTread, wPower, wGreat]
def zPairs : List (Str × S) := [("NoWord", wWord), ("NoPlace", wPlace), ("NoTread", wTread), ("NoPower", wPower), ("TooGreat", wGreat)]
/-- of one class -/
def zF1 (K : PySem.W.Frag) (c : Cfg) (i : Nat) : Bool :=
  decide (PySem.W.exmOne K (xv K c i) (.ref (He.ga K "TreadError")) = some true) && (exB K (He.ga K (c.excs.getD i Str.empty)) && (decide (PySem.W.kitOne K (xv K c i) (.type "ValueError") = some true) &&
    zNames.all fun y => decide (PySem.W.kitOne K (xv K c i) (.ref (He.ga K y)) = some (decide (y = c.excs.getD i Str.empty)))))
/-- of what a def that catches may catch -/
def zLam (K : PySem.W.Frag) (c : Cfg) (e : Str × Bool × List (Nat × S)) : Bool := e.2.1 || e.2.2.all fun p => zF1 K c p.1
/-- what the row must hold -/
def zStat (c : Cfg) (ws : List (Nat × S)) : Bool := (c.free.contains "isinstance" && c.free.contains "ValueError") && (c.excs.contains "TreadError" && ((zNames.all fun y => c.excs.contains y) && ws.all fun p => zPairs.contains (c.excs.getD p.1 Str.empty, p.2)))
theorem lookW_in : ∀ {ws : List (Nat × S)} {i : Nat} {z : S}, lookW ws i = some z → (i, z) ∈ ws
  | (j, w) :: r, i, z, h => by
    unfold lookW at h
    split at h
    · rename_i e
      cases h
      rw [e]
      exact List.mem_cons_self
    · exact List.mem_cons_of_mem _ (lookW_in h)
end Mi.Tk
end
section
set_option linter.all false
set_option maxRecDepth 100000
set_option Elab.async false
set_option maxHeartbeats 2000000
/-! A row's facts, from what the head tells. -/
namespace Mi
open PySem PySem.Spec PyProof.Rows L2
structure Row where
  body : List Stmt
  tops : List Nat
  Ns : List (List Str)
  dfs : List Df
  c : Cfg
  pen : Nat
  opn : Nat
  law : Nat
  spr : Nat
  key : Nat
  lawC : Cs
  /-- the defs that call what they are handed: name, which top -/
  ho : List (Str × Nat) := []
  /-- the errors that they take -/
  ex1 : List Str := []
namespace Row
def st (R : Row) (k : Nat) : Stmt := R.body.getD (R.tops.getD k 0) (.Pass ⟨0, 0, 0, 0⟩)
def N (R : Row) (k : Nat) : List Str := R.Ns.getD k []
def df (R : Row) (k : Nat) : Df := R.dfs.getD k ⟨0, 0, .nil⟩
def dd (R : Row) (k : Nat) (x : Str) : He.DefD := ⟨(x, none), x, x, defArgs (R.st k), defBody (R.st k), defScope (R.st k), [], []⟩
def fnFrom (R : Row) : Nat → List (Str × Nat) → List He.DefD
  | _, [] => []
  | k, (x, _) :: r => R.dd k x :: fnFrom R (k + 1) r
def fn (R : Row) : List He.DefD := fnFrom R 0 R.c.defs ++ R.ho.map fun p => R.dd p.2 p.1
theorem fnFrom_mem {R : Row} : ∀ {l : List (Str × Nat)} {j i : Nat} {x : Str} {n : Nat}, l[i]? = some (x, n) → R.dd (j + i) x ∈ fnFrom R j l
  | [], _, _, _, _, h => by simp at h
  | (y, m) :: r, j, 0, x, n, h => by
    simp at h
    obtain ⟨rfl, rfl⟩ := h
    exact List.mem_cons_self ..
  | (y, m) :: r, j, i + 1, x, n, h => by
    have h' : r[i]? = some (x, n) := by simpa using h
    have := fnFrom_mem (R := R) (j := j + 1) h'
    rw [show j + 1 + i = j + (i + 1) from by omega] at this
    exact List.mem_cons_of_mem _ this
def conF : Str × D → He.Fa
  | (x, .int i) => .int x i
  | (x, .str z) => .str x ⟨z.toArray⟩
  | (x, _) => .glo x
def fa (R : Row) : List He.Fa := (R.c.defs.map fun p => .glo p.1) ++ ((R.c.free.map .free) ++ ((R.c.excs.map .glo) ++ ((R.c.excs.map .exc) ++ ((R.c.tabs.map fun p => .glo p.1) ++ (R.c.cons.map conF ++ ((R.ho.map fun p => .glo p.1) ++ R.ex1.map fun y => .exm y y true))))))
def tsOf (t : Str × List (S × S)) : He.Tab := (fun K => He.ga K t.1, t.2.map fun p => ⟨p.1.toArray⟩)
def ts (R : Row) : List He.Tab := R.c.tabs.map tsOf
def exOf (K : PySem.W.Frag) (t : Str × List (S × S)) : Bool := He.valsB K (He.ga K t.1) (t.2.map fun p => (⟨p.1.toArray⟩, .str ⟨p.2.toArray⟩))
/-- the defs with a lambda, as the head asks for them -/
def tf (R : Row) : List He.Defn := R.c.tf.map fun x => (x, none)
def exB (R : Row) : PySem.W.Frag → Bool := fun K => (R.c.tabs.all (exOf K) && decide ((R.tf.map fun p => (He.cT K p).2).Nodup)) && (R.c.lams.all (Tk.zLam K R.c) && (R.c.isx.all (isxB K R.c) && R.c.exm.all (exmB K R.c)))
theorem exB_ok {R : Row} {K : PySem.W.Frag} (h : R.exB K = true) : R.c.tabs.all (exOf K) = true ∧ (R.tf.map fun p => (He.cT K p).2).Nodup ∧ R.c.lams.all (Tk.zLam K R.c) = true ∧ R.c.isx.all (isxB K R.c) = true ∧ R.c.exm.all (exmB K R.c) = true := by
  have h1 := Bool.and_eq_true_iff.mp h
  have h2 := Bool.and_eq_true_iff.mp h1.1
  have h3 := Bool.and_eq_true_iff.mp h1.2
  have h4 := Bool.and_eq_true_iff.mp h3.2
  exact ⟨h2.1, of_decide_eq_true h2.2, h3.1, h4.1, h4.2⟩
/-! ### the checks -/
def vConsB : Str × D → Bool
  | (_, .int _) => true
  | (_, .str z) => strB z
  | _ => false
def scB (N : List Str) (n : Nat) (sc : Scope) : Bool := (match sc.kind with
  | .function => true
  | _ => false) && (!sc.isCoroutine && (!sc.isGenerator && (decide N.Nodup && (decide (n ≤ N.length) && ((N.take n).all (lcB sc) && sc.names.all fun y => match y.2 with
  | .free => false
  | _ => true)))))
theorem scB_ok {N : List Str} {n : Nat} {sc : Scope} (h : scB N n sc = true) : FnScope N (N.take n) sc ∧ (N.take n).length = n ∧ n ≤ N.length := by
  simp only [scB, Bool.and_eq_true, Bool.not_eq_true', decide_eq_true_eq, List.all_eq_true] at h
  obtain ⟨h1, h2, h3, h4, h5, h6, h7⟩ := h
  have hl : (N.take n).length = n := by rw [List.length_take]; omega
  refine ⟨⟨?_, h2, h3, h4, by rw [hl], fun x hx => ?_, fun y hy e => ?_⟩, hl, h5⟩
  · split at h1
    · assumption
    · cases h1
  · have := h6 x hx
    unfold lcB at this
    split at this
    · exact .inl (by assumption)
    · exact .inr (by assumption)
    · cases this
  · have := h7 y hy
    rw [e] at this
    cases this
/-- one def -/
def chk1 (R : Row) (k : Nat) (x : Str) (n : Nat) : Bool := scB (R.N k) n (defScope (R.st k)) && (decide ((R.df k).n = (R.N k).length) && (decide ((R.df k).ps = n) && chkCs { R.c with N := R.N k, rp := R.c.rpf k, dn := R.c.tf.contains x } (defScope (R.st k)) (R.df k).body (defBody (R.st k))))
def chkFrom (R : Row) : Nat → List (Str × Nat) → Bool
  | _, [] => true
  | k, (x, n) :: r => chk1 R k x n && chkFrom R (k + 1) r
theorem chkFrom_ok {R : Row} : ∀ {l : List (Str × Nat)} {j i : Nat} {x : Str} {n : Nat}, chkFrom R j l = true → l[i]? = some (x, n) → chk1 R (j + i) x n = true
  | [], _, _, _, _, _, h => by simp at h
  | (y, m) :: r, j, 0, x, n, h0, h => by
    simp at h
    obtain ⟨rfl, rfl⟩ := h
    exact (Bool.and_eq_true_iff.mp h0).1
  | (y, m) :: r, j, i + 1, x, n, h0, h => by
    have h' : r[i]? = some (x, n) := by simpa using h
    have := chkFrom_ok (R := R) (j := j + 1) (Bool.and_eq_true_iff.mp h0).2 h'
    rwa [show j + 1 + i = j + (i + 1) from by omega] at this
def tabOk (t : Str × List (S × S)) : Bool := t.2.all fun p => strB p.2
def ok (R : Row) : Bool := decide (R.dfs.length = R.c.defs.length) && (chkFrom R 0 R.c.defs && (R.c.cons.all vConsB && R.c.tabs.all tabOk))
/-- parameters are bound by place -/
def BindFrom (R : Row) : Nat → List (Str × Nat) → Prop
  | _, [] => True
  | k, (x, n) :: r => (∀ (kV doc pm : Value) (an : Option Addr) (cdv ct : Value) (us : List Value), us.length = n → bindArgs (PySem.W.fnOf x x (defArgs (R.st k)) (defBody (R.st k)) (defScope (R.st k)) .none kV doc pm an cdv ct) ⟨us, []⟩ = pure (((R.N k).take n).zip us)) ∧ BindFrom R (k + 1) r
theorem bindFrom_ok {R : Row} : ∀ {l : List (Str × Nat)} {j i : Nat} {x : Str} {n : Nat}, BindFrom R j l → l[i]? = some (x, n) →
    ∀ (kV doc pm : Value) (an : Option Addr) (cdv ct : Value) (us : List Value), us.length = n → bindArgs (PySem.W.fnOf x x (defArgs (R.st (j + i))) (defBody (R.st (j + i))) (defScope (R.st (j + i))) .none kV doc pm an cdv ct) ⟨us, []⟩ = pure (((R.N (j + i)).take n).zip us)
  | [], _, _, _, _, _, h => by simp at h
  | (y, m) :: r, j, 0, x, n, h0, h => by
    simp at h
    obtain ⟨rfl, rfl⟩ := h
    exact h0.1
  | (y, m) :: r, j, i + 1, x, n, h0, h => by
    have h' : r[i]? = some (x, n) := by simpa using h
    have := bindFrom_ok (R := R) (j := j + 1) h0.2 h'
    rwa [show j + 1 + i = j + (i + 1) from by omega] at this
end Row
section
variable {R : Row} {P : Program} {w : World} {K : PySem.W.Frag} {h : Heap} {mg : Str → Option Value} {base : Heap}
open Row
/-- a def as the head tells it -/
theorem row_fun (c : He.SaysD R.fa R.fn K) {k : Nat} {x : Str} {n : Nat} (hk : R.c.defs[k]? = some (x, n)) : ∃ fd, FunD K x x (defArgs (R.st k)) (defBody (R.st k)) (defScope (R.st k)) [] [] (He.ga K x) fd := by
  have hm : R.dd k x ∈ R.fn := by
    have := fnFrom_mem (R := R) (j := 0) hk
    rw [Nat.zero_add] at this
    exact List.mem_append_left _ this
  obtain ⟨fd, F⟩ := c.defs hm
  exact ⟨fd, F⟩
theorem row_glo (X : K.In h) (G : h.Ns mainGlobals mg) (c : He.SaysD R.fa R.fn K) {k : Nat} {x : Str} {n : Nat} (hk : R.c.defs[k]? = some (x, n)) : mg x = some (.ref (He.ga K x)) :=
  He.glo_ok X G (c.facts (f := .glo x) (List.mem_append_left _ (List.mem_map.mpr ⟨(x, n), List.mem_of_getElem? hk, rfl⟩)))
/-- what a row brings of its calls by keywords -/
def KwOk (R : Row) (e : Nat × List Str × List Nat) : Prop := ∀ x n, R.c.defs[e.1]? = some (x, n) → e.2.2.length = n ∧ ∀ (kV doc pm : Value) (an : Option Addr) (cdv ct : Value) (us : List Value), us.length = e.2.1.length →
  bindArgs (PySem.W.fnOf x x (defArgs (R.st e.1)) (defBody (R.st e.1)) (defScope (R.st e.1)) .none kV doc pm an cdv ct) ⟨[], e.2.1.zip us⟩ = pure (((R.N e.1).take n).zip (e.2.2.map fun i => us.getD i Value.none))
theorem FunD.kwA {K : PySem.W.Frag} {x qual : Str} {ps : List Str} {params : Arguments} {body : List Stmt} {scope : Scope} {kws : List (Str × V)} {f : Addr} {fd : FuncData} {args : List Value → Args} {g : List Value → List Value} {m : Nat} (F : FunD K x qual params body scope [] kws f fd)
    (h : ∀ (kV doc pm : Value) (an : Option Addr) (cdv ct : Value) (us : List Value), us.length = m → bindArgs (PySem.W.fnOf x qual params body scope .none kV doc pm an cdv ct) (args us) = pure (ps.zip (g us))) (s : Shared) (us : List Value) (hl : us.length = m) : BindsTo s fd (args us) (ps.zip (g us)) := by
  obtain ⟨oc, od, dV, kV, doc, pm, an, cdv, ct, osl, rfl, lk, hcd, hD, hK⟩ := F.ex
  rcases hD with ⟨_, rfl⟩ | ⟨e, _⟩
  · exact .of_eq (h kV doc pm an cdv ct us hl)
  · exact absurd rfl e
theorem row_kw (hK : ∀ e, e ∈ R.c.kws → KwOk R e) {k : Nat} {x : Str} {n : Nat} (hk : R.c.defs[k]? = some (x, n)) {fd : FuncData} (F : FunD K x x (defArgs (R.st k)) (defBody (R.st k)) (defScope (R.st k)) [] [] (He.ga K x) fd) (l1 : ((R.N k).take n).length = n) : KwB R.c k fd ((R.N k).take n) := by
  intro ks pm hm
  obtain ⟨h1, h2⟩ := hK _ hm x n hk
  exact ⟨by rw [l1]; exact h1, fun s us hl => FunD.kwA F h2 s us hl⟩
theorem row_def (hok : R.ok = true) (hB : BindFrom R 0 R.c.defs) (hK : ∀ e, e ∈ R.c.kws → KwOk R e) (X : K.In h) (G : h.Ns mainGlobals mg) (c : He.SaysD R.fa R.fn K) {k : Nat} {x : Str} {n : Nat} (hk : R.c.defs[k]? = some (x, n)) :
    ∃ d N, R.dfs[k]? = some d ∧ d.ps = n ∧ DefOk K mg R.c k N d x := by
  simp only [Row.ok, Bool.and_eq_true, decide_eq_true_eq] at hok
  obtain ⟨h1, h2, h3, h4⟩ := hok
  have hc := chkFrom_ok h2 hk
  rw [Nat.zero_add] at hc
  simp only [chk1, Bool.and_eq_true, decide_eq_true_eq] at hc
  obtain ⟨s1, s2, s3, s4⟩ := hc
  obtain ⟨S, l1, l2⟩ := scB_ok s1
  obtain ⟨fd, F⟩ := row_fun c hk
  have hlt : k < R.dfs.length := by
    rw [h1]
    exact (List.getElem?_eq_some_iff.mp hk).1
  have hd : R.dfs[k]? = some (R.df k) := by
    unfold Row.df
    rw [List.getD_eq_getElem?_getD, List.getElem?_eq_getElem hlt]
    rfl
  have hb := bindFrom_ok hB hk
  rw [Nat.zero_add] at hb
  have bn : Binds K fd ((R.N k).take n) [] := F.bindsN fun kV doc pm an cdv ct us hl => hb kV doc pm an cdv ct us (by rw [hl, l1])
  have kp := F.kp
  have hkw := row_kw hK hk F l1
  obtain ⟨oc, od, dV, kV, doc, pm, an, cdv, ct, osl, rfl, lk, hcd, _, _⟩ := F.ex
  refine ⟨R.df k, R.N k, hd, s3, ⟨_, _, _, _, _, _, _, _, _, _, _, _, _, _, _, _, _, lk, hcd, S, row_glo X G c hk, kp, bn, by rw [l1, s3], hkw, s4, fun hx => ?_⟩, s2, by rw [s3]; exact l2⟩
  obtain ⟨c0, rfl⟩ := He.codeIn_ref hcd
  refine ⟨?_, rfl⟩
  have e0 : He.codeOf K (x, none) = c0 := He.codeOf_eq (p := (x, none)) lk rfl
  show Value.ref c0 = Value.ref (He.codeOf K (x, none))
  rw [e0]
end
end Mi
end
section
set_option linter.all false
set_option maxRecDepth 100000
set_option Elab.async false
set_option maxHeartbeats 2000000
/-! try: return x() / except E as e: return a word. -/
namespace Mi
open PySem PySem.Spec PyProof.Rows L2
/-- try: return a() / except x as e: return z -/
def vOg : List Stmt → Option (Str × Str × Str × Str)
  | [.Try [.Return (some (.Call (.Name a _) [] [] _)) _] [.ExceptHandler (some (.Name x _)) (some e) [.Return (some (.Constant (.str z) _ _)) _] _] [] [] _] => some (a, x, e, z)
  | _ => none
theorem vOg_ok {b : List Stmt} {a x e z : Str} (h : vOg b = some (a, x, e, z)) : ∃ p1 p2 p3 p4 j p5 p6 p7 p8, b = [.Try [.Return (some (.Call (.Name a p1) [] [] p2)) p3] [.ExceptHandler (some (.Name x p4)) (some e) [.Return (some (.Constant (.str z) j p5)) p6] p7] [] [] p8] := by
  unfold vOg at h
  split at h
  · cases h
    exact ⟨_, _, _, _, _, _, _, _, _, rfl⟩
  · cases h
def ogB (c : Cfg) (N : List Str) (i : Nat) (w : S) (sc : Scope) (body : List Stmt) : Bool := match vOg body with
  | some (a, x, e, z) => (decide (N = [a, e]) && (decide (z = ⟨w.toArray⟩) && decide (c.excs[i]? = some x))) && ((glB sc x && okN x) && (okN a && (decide (sc.names.lookup a = some .local) && decide (sc.names.lookup e = some .local))))
  | none => false
theorem og_lam {P : Program} {w : World} {K : PySem.W.Frag} {mg : Str → Option Value} {base : Heap} {c : Cfg} {x : Str} {i : Nat} {wd : S} {g : Addr} {pg : Arguments} {bg : List Stmt} {sg : Scope} {dV kV doc pm cdv ct oc : Value} {an od : Option Addr} {osl : Array (Option Value)} {N : List Str} {a : Str}
    (g1 : mg x = some (.ref g)) (g2 : PySem.W.keepIn K (.ref g) = true) (g3 : K.lookup g = some ⟨oc, od, .func (PySem.W.fnOf x x pg bg sg dV kV doc pm an cdv ct), osl⟩) (g4 : PySem.W.codeIn K cdv x = true) (g5 : Binds K (PySem.W.fnOf x x pg bg sg dV kV doc pm an cdv ct) [a] []) (g6 : FnScope N [a] sg)
    (ha : N[0]? = some a) (hb : ogB c N i wd sg bg = true) (hx : ∀ y, c.excs[i]? = some y → mg y = some (.ref (He.ga K y)) ∧ PySem.W.exmOne K (.ref (He.ga K y)) (.ref (He.ga K y)) = some true) : LamFn P w K mg base c x true [(i, wd)] := by
  unfold ogB at hb
  split at hb
  · rename_i a' y e z hv
    obtain ⟨p1, p2, p3, p4, j, p5, p6, p7, p8, rfl⟩ := vOg_ok hv
    simp only [Bool.and_eq_true, decide_eq_true_eq] at hb
    obtain ⟨⟨rfl, rfl, e3⟩, ⟨e4, e5⟩, e6, e7, e8⟩ := hb
    cases ha
    obtain ⟨m1, m2⟩ := hx y e3
    refine ⟨g, a, pg, _, sg, dV, kV, doc, pm, cdv, ct, oc, an, od, osl, [a, e], g1, g2, g3, g4, g5, g6, rfl, .inl e7, ⟨(okN_ok e6).1, (okN_ok e6).2.1⟩, ?_⟩
    rintro X rfl rfl rfl rfl rfl q f c' s H Q tl act hc h
    have hgl : Gl (cxOf C8.CX0 X.prog X.w X.K X.mg X.base [a, e] x sg g cdv X.A X.stack s H C8.E0).nox y := by
      have h4 := e4
      unfold glB at h4
      split at h4
      · rename_i z
        exact z
      · cases h4
    have hxv : xv X.K c i = .ref (He.ga X.K y) := by
      show Value.ref (He.ga X.K (c.excs.getD i Str.empty)) = _
      rw [List.getD_eq_getElem?_getD, e3]
      rfl
    refine ⟨_, pss_one (ps_try_as (X := (cxOf C8.CX0 X.prog X.w X.K X.mg X.base [a, e] x sg g cdv X.A X.stack s H C8.E0).nox) (c := .ref (He.ga X.K y)) (i := 1) (Wout := fun _ _ _ _ => False)
        (tb := fun W D σ H => ∃ Ech : XK, (∀ cls d σ' H', Ech cls d H' → W cls d σ' H') ∧ σ[0]? = some (some (.ref f)) ∧ H c' = some (LamX.CodeO c' q) ∧ tl Ech H D.rt)
        rfl rfl g6.nd rfl e8 ⟨hgl, (okN_ok e5).1, .inl m1⟩ LamX.takes0 (fun W pn xe tk _ => ?_) (fun a oe cls d pn _ _ => pss_one (ps_ret pe_str))), ?_⟩
    · refine ⟨fun pins s' σ H' D I h' => ?_⟩
      obtain ⟨Ech, hW, h1, h2, h3⟩ := h'
      have hp := act W pn xe Ech p1 p2 tk hW
      have hq := pss_one (ps_ret (pos := p3) hp)
      exact hq.run pins s' σ H' D I ⟨h1, h2, h3⟩
    · refine ⟨fun cls d H' => d = none ∧ ∃ i' z', lookW [(i, wd)] i' = some z' ∧ cls = xv X.K c i' ∧ ∀ H'' : Hp, (∀ b o, H' b = some o → H'' b = some o) → Q (.str ⟨z'.toArray⟩) H'', fun cls d σ' H' hE => ?_, rfl, hc, h⟩
      obtain ⟨_, i', z', l1, l2, l3⟩ := hE
      unfold lookW at l1
      split at l1
      · rename_i e1
        cases l1
        subst e1
        subst l2
        rw [hxv]
        exact ⟨true, m2, fun _ b _ => l3 _ (fun _ _ q => q), fun z => nomatch z⟩
      · cases l1
  · cases hb
end Mi
end
section
set_option linter.all false
set_option maxRecDepth 100000
set_option Elab.async false
set_option maxHeartbeats 2000000
/-! try: .. except X as n: y = n; the error stays known behind it. -/
namespace Mi.Tk
open PySem PySem.Spec PyProof.Rows L2
/-- isinstance(e, c), e tracked -/
def rIsT (K : PySem.W.Frag) (D : Addr) : List V → Hp → VK → Prop := fun xs H Q => ∃ (a : Addr) (c : V) (cv : Value) (b : Bool), xs = [.ref a, c] ∧ H a = some (ExT (.ref D) a) ∧ (∀ u, RelV c u → u = cv) ∧ PySem.W.kitOne K (.ref D) cv = some b ∧ Q (.bl b) H
theorem call_isT {X : Cx} {D : Addr} (C : ExcC X.K D) : CallR X (.builtin "isinstance") (rIsT X.K D) := by
  intro pins s σ H xs us Q I r h
  obtain ⟨a, c, cv, b, rfl, hH, hcv, e, q⟩ := h
  cases r with
  | cons rx rr =>
    cases rr with
    | cons rt rr =>
      cases rr
      cases rx
      have ec := hcv _ rt
      subst ec
      obtain ⟨⟨oe, hget, ⟨z1, z2⟩, vs, hv⟩, _, _⟩ := I.hok a _ hH
      have J : PySem.W.InstAt s.heap a oe D none := by
        obtain ⟨oc, od, oda, osl⟩ := oe
        dsimp only at z1 z2 hv
        subst z1 z2 hv
        exact ⟨hget, rfl, rfl, trivial⟩
      exact PySem.W.kia_one (PySem.W.handS_kitx_exc C.hg C.hk C.hs C.hd C.ha C.hn C.ht C.hm) I.kIn J e (fun z => nomatch z) fun tk => ⟨.bl b, H, I.kept (t' := tk) fun _ _ z => z, rfl, q⟩
/-- l.count(True), l of True and False -/
def rCntB (K : PySem.W.Frag) : V → List V → Hp → VK → Prop := fun x xs H Q => ∃ (p : Addr) (bs : List Bool), x = .ref p ∧ xs = [.bl true] ∧ SqL K H p (bs.map V.bl) ∧ Q (.int (bs.count true : Nat)) H
end Mi.Tk
end
section
set_option linter.all false
set_option maxRecDepth 100000
set_option Elab.async false
set_option maxHeartbeats 2000000
/-! The word of an error's class. -/
namespace Mi.Tk
open PySem PySem.Spec PyProof.Rows L2
section
variable {X : Cx}
theorem countB : ∀ {bs : List Bool} {its : List Value}, Vals (bs.map V.bl) its → its.countP (eqU (.bl true)) = bs.count true
  | [], _, .nil => rfl
  | b :: bs, _, .cons r t => by
    have ih := countB t
    cases r
    rw [List.countP_cons, List.count_cons, ih]
    cases b <;> rfl
theorem flatB {bs : List Bool} : (bs.map V.bl).all flatV = true := by
  induction bs with
  | nil => rfl
  | cons b bs ih => simpa [flatV] using ih
theorem mt_countB : MtR X "list.count" (rCntB X.K) := by
  intro pins s σ H x xs v us Q I rx rxs h
  obtain ⟨p, bs, rfl, rfl, hs, q⟩ := h
  cases rx
  obtain ⟨u, rfl, ru⟩ := rxs.one
  obtain ⟨its, rv, ⟨⟨cls, dd, data, sl⟩, n, ho, hc, hdn, hd⟩, hlen⟩ := I.list hs
  simp only at hc hd
  subst hc hd
  refine call_meets PySem.F.slot_list_count ⟨_, ho, rfl⟩ PySem.F.entry_list_count (PySem.F.args_list_count_2 _ _)
    (SeqAt.list_countAt p its.toArray n dd sl u (eqU (.bl true))) ⟨ho, fun y hy => mem_eqAt ru rfl rv flatB y (by simpa using hy), ?_⟩
  have ec : its.toArray.toList.countP (eqU (.bl true)) = bs.count true := countB rv
  refine ⟨.int (bs.count true : Nat), H, I.tok _, ⟨s.toks, ?_⟩, q⟩
  show Value.int ((its.toArray.toList.countP (eqU (.bl true)) : Nat) : Int) s.toks = Value.int ((bs.count true : Nat) : Int) s.toks
  rw [ec]
end
/-- the names -/
abbrev zN : List Str := ["act", "caught", "e", "some", "words"]
/-- what the def sees -/
structure Zx (X : Cx) (D : Addr) (bv : Str → Bool) : Prop where
  n : X.N = zN
  lc : ∀ x ∈ X.N, X.env.scope.names.lookup x = some .local
  gi : Gl X "isinstance" ∧ X.mg "isinstance" = none
  gv : Gl X "ValueError" ∧ X.mg "ValueError" = none ∧ PySem.W.kitOne X.K (.ref D) (.type "ValueError") = some true
  ec : ExcC X.K D
def ClsAt (X : Cx) (D : Addr) (bv : Str → Bool) (y : Str) : Prop := Gl X y ∧ okN y = true ∧ ∃ C : Addr, X.mg y = some (.ref C) ∧ PySem.W.kitOne X.K (.ref D) (.ref C) = some (bv y)
section
variable {X : Cx} {D : Addr} {bv : Str → Bool} {pos : Pos}
theorem nodupZ (Z : Zx X D bv) : X.N.Nodup := by
  rw [Z.n]
  decide +kernel
theorem pe_slot (Z : Zx X D bv) {x : Str} {i : Nat} {p : Pos} (h : X.N[i]? = some x) : PE X (.Name x p) (tVar i) := by
  have hm := List.mem_of_getElem? h
  have hv : Vis X.env.scope x := .inl (Z.lc x hm)
  rw [Z.n] at hm
  have h1 : (x == ("__debug__" : Str)) = false ∧ (x == ("__classdict__" : Str)) = false := by
    simp only [List.mem_cons, List.not_mem_nil, or_false] at hm
    rcases hm with rfl | rfl | rfl | rfl | rfl <;> exact ⟨by decide +kernel, by decide +kernel⟩
  exact pe_var h hv h1.1 h1.2
/-- isinstance(caught, y) -/
def isB (y : Str) : Expr → Bool
  | .Call (.Name f _) [.Name v _, .Name z _] [] _ => decide (f = "isinstance") && (decide (v = "caught") && decide (z = y))
  | _ => false
def tIs (D : Addr) (R : Bool → VK → Hp → Prop) : TE := fun σ H Q => ∃ a : Addr, σ[1]? = some (some (.ref a)) ∧ H a = some (ExT (.ref D) a) ∧ R true Q H
theorem isB_star {y : Str} {e : Expr} (h : isB y e = true) : notStar e = true := by
  unfold isB at h
  split at h
  · rfl
  · cases h
theorem pe_isT (Z : Zx X D bv) {y : Str} {e : Expr} (C : ClsAt X D bv y) (h : isB y e = true) : PE X e (fun σ H Q => ∃ a : Addr, σ[1]? = some (some (.ref a)) ∧ H a = some (ExT (.ref D) a) ∧ Q (.bl (bv y)) H) := by
  unfold isB at h
  split at h
  · rename_i f p1 v p2 z p3 p4
    simp only [Bool.and_eq_true, decide_eq_true_eq] at h
    obtain ⟨rfl, rfl, rfl⟩ := h
    obtain ⟨c1, c2, A, c3, c4⟩ := C
    have n1 : X.N[1]? = some ("caught" : Str) := by rw [Z.n]; rfl
    refine PE.imp (pe_callB (call_isT Z.ec) Z.gi.1 Z.gi.2 boot_isi (pa_cons (pe_slot Z n1) (pa_cons (pe_glob (v := .ref A) c1 c3 rfl (okN_ok c2).1) pa_nil (starEach_of rfl)) (starEach_of rfl)) (by decide) (by decide) (starEach_of rfl) (star_any rfl)) fun σ H Q hq => ?_
    obtain ⟨a, h1, h2, h3⟩ := hq
    exact ⟨_, h1, ⟨a, .ref A, .ref A, bv z, rfl, h2, fun u r => r, c4, h3⟩⟩
  · cases h
theorem pe_isV (Z : Zx X D bv) {e : Expr} (h : isB "ValueError" e = true) : PE X e (fun σ H Q => ∃ a : Addr, σ[1]? = some (some (.ref a)) ∧ H a = some (ExT (.ref D) a) ∧ Q (.bl true) H) := by
  unfold isB at h
  split at h
  · rename_i f p1 v p2 z p3 p4
    simp only [Bool.and_eq_true, decide_eq_true_eq] at h
    obtain ⟨rfl, rfl, rfl⟩ := h
    obtain ⟨c1, c3, c4⟩ := Z.gv
    have n1 : X.N[1]? = some ("caught" : Str) := by rw [Z.n]; rfl
    refine PE.imp (pe_callB (call_isT Z.ec) Z.gi.1 Z.gi.2 boot_isi (pa_cons (pe_slot Z n1) (pa_cons (pe_bltn (v := .ty "ValueError") c1 c3 (by decide +kernel : bootBuiltins "ValueError" = some (.type "ValueError")) rfl (by decide +kernel) (by decide +kernel)) pa_nil (starEach_of rfl)) (starEach_of rfl)) (by decide) (by decide) (starEach_of rfl) (star_any rfl)) fun σ H Q hq => ?_
    obtain ⟨a, h1, h2, h3⟩ := hq
    exact ⟨_, h1, ⟨a, .ty "ValueError", .type "ValueError", true, rfl, h2, fun u r => r, c4, h3⟩⟩
  · cases h
def isLB : List Str → List Expr → Bool
  | [], [] => true
  | y :: ys, e :: es => isB y e && isLB ys es
  | _, _ => false
theorem pa_isL (Z : Zx X D bv) : ∀ {ys : List Str} {es : List Expr}, (∀ y ∈ ys, ClsAt X D bv y) → isLB ys es = true → PA X es (fun σ H Q => ∃ a : Addr, σ[1]? = some (some (.ref a)) ∧ H a = some (ExT (.ref D) a) ∧ Q (ys.map fun y => .bl (bv y)) H)
  | [], [], _, _ => PA.imp pa_nil fun σ H Q ⟨a, h1, h2, h3⟩ => h3
  | y :: ys, e :: es, hC, h => by
    have h := Bool.and_eq_true_iff.mp h
    refine PA.imp (pa_cons (pe_isT Z (hC y List.mem_cons_self) h.1) (pa_isL Z (fun z hz => hC z (List.mem_cons_of_mem _ hz)) h.2) (starEach_of (isB_star h.1))) fun σ H Q ⟨a, h1, h2, h3⟩ => ?_
    exact ⟨a, h1, h2, a, h1, h2, h3⟩
/-- some = [..] -/
def zsB (ys : List Str) : Stmt → Bool
  | .Assign [.Name x _] (.List es _) _ => decide (x = "some") && (decide (ys.length ≤ 100) && isLB ys es)
  | _ => false
theorem z_set (Z : Zx X D bv) {ys : List Str} {st : Stmt} (hC : ∀ y ∈ ys, ClsAt X D bv y) (h : zsB ys st = true) : PS X st (fun T σ H => ∃ a : Addr, σ[1]? = some (some (.ref a)) ∧ H a = some (ExT (.ref D) a) ∧ ∀ q H', H q = none → H' q = some (.lst (ys.map fun y => .bl (bv y))) → (∀ b o, H b = some o → H' b = some o) → T.nx (σ.set 3 (some (.ref q))) H') := by
  unfold zsB at h
  split at h
  · rename_i x p1 es p2 p3
    simp only [Bool.and_eq_true, decide_eq_true_eq] at h
    obtain ⟨rfl, h2, h3⟩ := h
    have n3 : X.N[3]? = some ("some" : Str) := by rw [Z.n]; rfl
    refine PS.imp (ps_set (nodupZ Z) n3 (.inl (Z.lc _ (List.mem_of_getElem? n3))) (pe_lst (pa_isL Z hC h3)) rfl (.inr (Z.lc _ (List.mem_of_getElem? n3)))) fun T σ H hq => ?_
    obtain ⟨a, h4, h5, h6⟩ := hq
    refine ⟨a, h4, h5, by rw [List.length_map]; exact Nat.le_trans h2 (by decide), fun p hp => ?_⟩
    exact h6 p _ hp upd_same fun b o e => by rw [upd_ne (ne_of_none e hp)]; exact e
  · cases h
/-- some = some + [..] -/
def zcB (ys : List Str) : Stmt → Bool
  | .Assign [.Name x _] (.BinOp (.Name y _) .Add (.List es _) _) _ => decide (x = "some") && (decide (y = "some") && (decide (ys.length ≤ 100) && isLB ys es))
  | _ => false
theorem z_cat (Z : Zx X D bv) {ys : List Str} {st : Stmt} (hC : ∀ y ∈ ys, ClsAt X D bv y) (h : zcB ys st = true) : PS X st (fun T σ H => ∃ (a l : Addr) (xs : List V), σ[1]? = some (some (.ref a)) ∧ H a = some (ExT (.ref D) a) ∧ σ[3]? = some (some (.ref l)) ∧ H l = some (.lst xs) ∧ xs.length ≤ 1000 ∧
    ∀ q H', H q = none → H' q = some (.lst (xs ++ ys.map fun y => .bl (bv y))) → (∀ b o, H b = some o → H' b = some o) → T.nx (σ.set 3 (some (.ref q))) H') := by
  unfold zcB at h
  split at h
  · rename_i x p1 y p2 es p3 p4 p5
    simp only [Bool.and_eq_true, decide_eq_true_eq] at h
    obtain ⟨rfl, rfl, h2, h3⟩ := h
    have n3 : X.N[3]? = some ("some" : Str) := by rw [Z.n]; rfl
    refine PS.imp (ps_set (nodupZ Z) n3 (.inl (Z.lc _ (List.mem_of_getElem? n3))) (pe_op op_cat (pe_slot Z n3) (pe_lst (pa_isL Z hC h3))) rfl (.inr (Z.lc _ (List.mem_of_getElem? n3)))) fun T σ H hq => ?_
    obtain ⟨a, l, xs, h4, h5, h6, h7, h8, h9⟩ := hq
    refine ⟨_, h6, a, h4, h5, by rw [List.length_map]; exact Nat.le_trans h2 (by decide), fun p hp => ?_⟩
    refine ⟨l, p, xs, _, rfl, rfl, by rw [upd_ne (ne_of_none h7 hp)]; exact h7, upd_same, by rw [List.length_map]; exact Nat.le_trans (Nat.add_le_add h8 h2) (by decide), fun q hq => ?_⟩
    have hq' : H q = none := by
      cases e : H q with
      | none => rfl
      | some o =>
        rw [upd_ne (ne_of_none e hp), e] at hq
        cases hq
    refine h9 q _ hq' upd_same fun b o e => ?_
    have e1 : upd H p (.lst (ys.map fun y => .bl (bv y))) b = some o := by rw [upd_ne (ne_of_none e hp)]; exact e
    rw [upd_ne (ne_of_none e1 hq)]
    exact e1
  · cases h
/-- some.append(..) -/
def zaB (y : Str) : Stmt → Bool
  | .Expr (.Call (.Attribute (.Name x _) m ap) [e] [] cp) _ => decide (x = "some") && (decide (m = "append") && ((ap.endLine == cp.line) && isB y e))
  | _ => false
theorem z_app (Z : Zx X D bv) {y : Str} {st : Stmt} (hC : ClsAt X D bv y) (h : zaB y st = true) : PS X st (fun T σ H => ∃ (a l : Addr) (xs : List V), σ[1]? = some (some (.ref a)) ∧ H a = some (ExT (.ref D) a) ∧ σ[3]? = some (some (.ref l)) ∧ H l = some (.lst xs) ∧ xs.length ≤ 1000 ∧ T.nx σ (upd H l (.lst (xs ++ [.bl (bv y)])))) := by
  unfold zaB at h
  split at h
  · rename_i x p1 m ap e cp p2
    simp only [Bool.and_eq_true, decide_eq_true_eq] at h
    obtain ⟨rfl, rfl, hl, h3⟩ := h
    have n3 : X.N[3]? = some ("some" : Str) := by rw [Z.n]; rfl
    have h4 := isB_star h3
    refine PS.imp (ps_expr (pe_bm PySem.F.plainAttrs_list PySem.F.slot_list_append PySem.F.type_list_append mt_append (pe_slot Z n3) (pa_cons (pe_isT Z hC h3) pa_nil (starEach_of h4)) rfl (by rw [starEach_of h4]; rfl) hl (starEach_of h4) rfl)) fun T σ H hq => ?_
    obtain ⟨a, l, xs, h4, h5, h6, h7, h8, h9⟩ := hq
    refine ⟨_, h6, .inl ⟨rfl, xs, .inl (.inl h7)⟩, a, h4, h5, l, xs, _, rfl, rfl, h7, Nat.lt_of_le_of_lt h8 (by decide), h9⟩
  · cases h
/-- words = [..] + ["odd"] * 8 -/
def strsB : List S → List Expr → Bool
  | [], [] => true
  | z :: zs, .Constant (.str y) _ _ :: es => decide (y = ⟨z.toArray⟩) && strsB zs es
  | _, _ => false
theorem pa_strs : ∀ {zs : List S} {es : List Expr}, strsB zs es = true → PA X es (fun σ H Q => Q (zs.map fun z => .str ⟨z.toArray⟩) H)
  | [], [], _ => pa_nil
  | z :: zs, e :: es, h => by
    unfold strsB at h
    split at h
    · rename_i h1 h2
      cases h2
    · rename_i z' zs' y j p es' h1 h2
      cases h1
      cases h2
      simp only [Bool.and_eq_true, decide_eq_true_eq] at h
      obtain ⟨rfl, h3⟩ := h
      exact PA.imp (pa_cons pe_str (pa_strs h3) (starEach_of rfl)) fun σ H Q hq => hq
    · cases h
def zwB (zs : List S) (o : S) : Stmt → Bool
  | .Assign [.Name x _] (.BinOp (.List es _) .Add (.BinOp (.List [.Constant (.str y) _ _] _) .Mult (.Constant (.int n) _ _) _) _) _ => decide (x = "words") && (decide (zs.length ≤ 100) && (strsB zs es && (decide (y = ⟨o.toArray⟩) && decide (n = 8))))
  | _ => false
theorem z_words (Z : Zx X D bv) {zs : List S} {o : S} {st : Stmt} (h : zwB zs o st = true) : PS X st (fun T σ H => ∀ q H', H' q = some (.lst ((zs.map fun z => .str ⟨z.toArray⟩) ++ List.replicate 8 (.str ⟨o.toArray⟩))) → (∀ b u, H b = some u → H' b = some u) → T.nx (σ.set 4 (some (.ref q))) H') := by
  unfold zwB at h
  split at h
  · rename_i x p1 es p2 y j p3 p4 n j2 p5 p6 p7 p8
    simp only [Bool.and_eq_true, decide_eq_true_eq] at h
    obtain ⟨rfl, h2, h3, rfl, rfl⟩ := h
    have n4 : X.N[4]? = some ("words" : Str) := by rw [Z.n]; rfl
    refine PS.imp (ps_set (nodupZ Z) n4 (.inl (Z.lc _ (List.mem_of_getElem? n4))) (pe_op op_cat (pe_lst (pa_strs h3)) (pe_op op_rep (pe_lst (pa_cons pe_str pa_nil (starEach_of rfl))) pe_int)) rfl (.inr (Z.lc _ (List.mem_of_getElem? n4)))) fun T σ H hq => ?_
    refine ⟨by rw [List.length_map]; exact Nat.le_trans h2 (by decide), fun p hp => ?_⟩
    refine ⟨show 1 ≤ sizeLine by decide, fun p' hp' => ?_⟩
    refine ⟨p', 8, _, rfl, rfl, upd_same, by decide, by decide, show 1 * 8 ≤ sizeLine by decide, fun r hr => ?_⟩
    have np : p ≠ p' := fun z => by rw [← z, upd_same] at hp'; cases hp'
    have nr : p ≠ r := fun z => by rw [← z, upd_ne np, upd_same] at hr; cases hr
    refine ⟨p, r, _, _, rfl, rfl, by rw [upd_ne nr, upd_ne np]; exact upd_same, upd_same, ?_, fun q hq2 => ?_⟩
    · rw [List.length_map]
      exact Nat.le_trans (Nat.add_le_add h2 (show (List.replicate (8 : Int).toNat [V.str ⟨o.toArray⟩]).flatten.length ≤ 8 from Nat.le_refl 8)) (by decide)
    · refine hq q _ ?_ fun b u e => ?_
      · rw [upd_same]
        rfl
      · have e1 : upd H p (.lst (zs.map fun z => .str ⟨z.toArray⟩)) b = some u := by rw [upd_ne (ne_of_none e hp)]; exact e
        have e2 : upd (upd H p (.lst (zs.map fun z => .str ⟨z.toArray⟩))) p' (.lst [.str ⟨o.toArray⟩]) b = some u := by rw [upd_ne (ne_of_none e1 hp')]; exact e1
        have e3 : upd (upd (upd H p (.lst (zs.map fun z => .str ⟨z.toArray⟩))) p' (.lst [.str ⟨o.toArray⟩])) r (.lst (List.replicate (8 : Int).toNat [V.str ⟨o.toArray⟩]).flatten) b = some u := by rw [upd_ne (ne_of_none e2 hr)]; exact e2
        rw [upd_ne (ne_of_none e3 hq2)]
        exact e3
  · cases h
/-- return words[some.index(True)] if some.count(True) == 1 and isinstance(caught, ValueError) else "odd" -/
def zrB (o : S) : Stmt → Bool
  | .Return (some (.IfExp (.BoolOp .And [.Compare (.Call (.Attribute (.Name x1 _) m1 ap1) [.Constant (.bool b1) _ _] [] cp1) [.Eq] [.Constant (.int k) _ _] _, e] _) (.Subscript (.Name w _) (.Call (.Attribute (.Name x2 _) m2 ap2) [.Constant (.bool b2) _ _] [] cp2) _) (.Constant (.str y) _ _) _)) _ =>
    decide (x1 = "some") && (decide (m1 = "count") && ((ap1.endLine == cp1.line) && (decide (b1 = true) && (decide (k = 1) && (isB "ValueError" e && (decide (w = "words") && (decide (x2 = "some") && (decide (m2 = "index") && ((ap2.endLine == cp2.line) && (decide (b2 = true) && decide (y = ⟨o.toArray⟩)))))))))))
  | _ => false
theorem z_ret (Z : Zx X D bv) {o : S} {st : Stmt} (h : zrB o st = true) : PS X st (fun T σ H => ∃ (a l w : Addr) (bs : List Bool) (ws : List V) (j : Nat) (v : V), σ[1]? = some (some (.ref a)) ∧ H a = some (ExT (.ref D) a) ∧ σ[3]? = some (some (.ref l)) ∧ H l = some (.lst (bs.map V.bl)) ∧ σ[4]? = some (some (.ref w)) ∧ H w = some (.lst ws) ∧
    bs.count true = 1 ∧ bs[j]? = some true ∧ (∀ m : Nat, m < j → bs[m]? = some false) ∧ ws[j]? = some v ∧ T.rt v H) := by
  unfold zrB at h
  split at h
  · rename_i x1 p1 m1 ap1 b1 j1 p2 cp1 k j2 p3 p4 e p5 w p6 x2 p7 m2 ap2 b2 j3 p8 cp2 p9 y j4 p10 p11 p12
    simp only [Bool.and_eq_true, decide_eq_true_eq] at h
    obtain ⟨rfl, rfl, hl1, rfl, rfl, he, rfl, rfl, rfl, hl2, rfl, rfl⟩ := h
    have n3 : X.N[3]? = some ("some" : Str) := by rw [Z.n]; rfl
    have n4 : X.N[4]? = some ("words" : Str) := by rw [Z.n]; rfl
    have q1 : PE X (.Call (.Attribute (.Name "some" p1) "count" ap1) [.Constant (.bool true) j1 p2] [] cp1) _ := pe_bm PySem.F.plainAttrs_list PySem.F.slot_list_count (by kernel_rfl) mt_countB (pe_slot Z n3) (pa_cons pe_bl pa_nil (starEach_of rfl)) rfl rfl hl1 (starEach_of rfl) rfl
    have q2 : PE X (.Call (.Attribute (.Name "some" p7) "index" ap2) [.Constant (.bool true) j3 p8] [] cp2) _ := pe_bm PySem.F.plainAttrs_list PySem.F.slot_list_index (by kernel_rfl) mt_index (pe_slot Z n3) (pa_cons pe_bl pa_nil (starEach_of rfl)) rfl rfl hl2 (starEach_of rfl) rfl
    have hpt : PT X e (tB _) := pt_val (pe_isV Z he) (by
      unfold isB at he
      split at he
      · intro _
        rfl
      · cases he)
    have q3 := PW.pt (pw_and (pos := p5) (pt_cmpR (pos := p4) op_eq q1 (pe_int (i := 1) (j := j2) (pos := p3)) rfl) (pw_and1 hpt))
    refine PS.imp (ps_ret (pe_ifExp q3 (pe_ix ix_list (pe_slot Z n4) q2 (plainIx_of rfl)) pe_str)) fun T σ H hq => ?_
    obtain ⟨a, l, wl, bs, ws, j, v, h1, h2, h3, h4, h5, h6, h7, h8, h9, h10, h11⟩ := hq
    show tIf _ _ _ σ H T.rt
    refine ⟨_, h3, .inl ⟨rfl, _, .inl (.inl h4)⟩, l, bs, rfl, rfl, .inl (.inl h4), ?_⟩
    rw [h7]
    refine ⟨rfl, _, rfl, ?_⟩
    rw [show decide (V.int ((1 : Nat) : Int) = V.int 1) = true from rfl]
    simp only [if_true]
    refine ⟨a, h1, h2, _, rfl, ?_⟩
    simp only [if_true]
    refine ⟨_, h5, ?_⟩
    refine ⟨_, h3, .inl ⟨rfl, _, .inl (.inl h4)⟩, l, bs.map V.bl, .bl true, j, .bl true, rfl, rfl, .inl (.inl h4), rfl, flatB, by rw [List.getElem?_map, h8]; rfl, rfl, fun m z hm hz => ?_, ?_⟩
    · rw [List.getElem?_map, h9 m hm] at hz
      cases hz
      rfl
    · refine ⟨wl, ws, j, v, rfl, rfl, .inl (.inl h6), L2.atI_nat h10, h11⟩
  · cases h
end
end Mi.Tk
end
section
set_option linter.all false
set_option maxRecDepth 100000
set_option Elab.async false
set_option maxHeartbeats 2000000
/-! The def that tells the word of an error's class. -/
namespace Mi.Tk
open PySem PySem.Spec PyProof.Rows L2
theorem pe_weak {X : Cx} {e : Expr} {t : TE} (h : PE X e t) : PE X e (fun σ H Q => ∃ Q0 : VK, t σ H Q0 ∧ ∀ v H', Q0 v H' → Q v H') :=
  ⟨fun pins s σ H Q I ⟨Q0, h0, m⟩ => wpAny_mono (h.run pins s σ H Q0 I h0) (fun u s' ⟨v, H', I', r, q⟩ => ⟨v, H', I', r, m v H' q⟩) (fun _ _ z => z)⟩
theorem pss_ex {X : Cx} {ι : Type} {body : List Stmt} {P : ι → Prop} {t : ι → TS} (h : ∀ i, P i → PSs X body (t i)) : PSs X body (fun D σ H => ∃ i, P i ∧ t i D σ H) :=
  ⟨fun pins s σ H D I ⟨i, hi, hq⟩ => (h i hi).run pins s σ H D I hq⟩
/-- caught = None -/
def z1B : Stmt → Bool
  | .Assign [.Name x _] (.Constant .none _ _) _ => decide (x = "caught")
  | _ => false
/-- try: act() / except TreadError as e: caught = e -/
def z2B : Stmt → Bool
  | .Try [.Expr (.Call (.Name a _) [] [] _) _] [.ExceptHandler (some (.Name x _)) (some e) [.Assign [.Name y _] (.Name z _) _] _] [] [] _ => decide (a = "act") && (decide (x = "TreadError") && (decide (e = "e") && (decide (y = "caught") && decide (z = "e"))))
  | _ => false
/-- if caught is None: return "fine" -/
def z3B : Stmt → Bool
  | .If (.Compare (.Name x _) [.Is] [.Constant .none _ _] _) [.Return (some (.Constant (.str z) _ _)) _] [] _ => decide (x = "caught") && decide (z = ⟨fineS.toArray⟩)
  | _ => false
def restB : List Stmt → Bool
  | [s4, s5, s6, s7, s8, s9, s10] => zsB (zNames.take 3) s4 && (zcB ((zNames.drop 3).take 3) s5 && (zcB ((zNames.drop 6).take 3) s6 && (zcB ((zNames.drop 9).take 3) s7 && (zaB "NoThings" s8 && (zwB zWords wOdd s9 && zrB wOdd s10)))))
  | _ => false
def zeB (N : List Str) (sc : Scope) : List Stmt → Bool
  | s1 :: s2 :: s3 :: rest => (decide (N = zN) && (zN.all fun x => decide (sc.names.lookup x = some .local))) && ((glB sc "isinstance" && (glB sc "ValueError" && (glB sc "TreadError" && zNames.all fun y => glB sc y && okN y))) && (z1B s1 && (z2B s2 && (z3B s3 && restB rest))))
  | _ => false
section
variable {X : Cx} {D : Addr} {y0 : Str} {w : S}
theorem rest_pss (Z : Zx X D fun y => decide (y = y0)) (hC : ∀ y ∈ zNames, ClsAt X D (fun y => decide (y = y0)) y) (hy : (y0, w) ∈ zPairs) {body : List Stmt} (h : restB body = true) :
    PSs X body (fun T σ H => ∃ a : Addr, σ.length = 5 ∧ σ[1]? = some (some (.ref a)) ∧ H a = some (ExT (.ref D) a) ∧ ∀ H', (∀ b o, H b = some o → H' b = some o) → T.rt (.str ⟨w.toArray⟩) H') := by
  unfold restB at h
  split at h
  · rename_i s4 s5 s6 s7 s8 s9 s10
    simp only [Bool.and_eq_true] at h
    obtain ⟨h4, h5, h6, h7, h8, h9, h10⟩ := h
    have q4 := z_set Z (fun y hy => hC y (List.mem_of_mem_take hy)) h4
    have q5 := z_cat Z (fun y hy => hC y (List.mem_of_mem_drop (List.mem_of_mem_take hy))) h5
    have q6 := z_cat Z (fun y hy => hC y (List.mem_of_mem_drop (List.mem_of_mem_take hy))) h6
    have q7 := z_cat Z (fun y hy => hC y (List.mem_of_mem_drop (List.mem_of_mem_take hy))) h7
    have q8 := z_app Z (hC "NoThings" (by decide +kernel)) h8
    have q9 := z_words Z h9
    have q10 := z_ret Z h10
    refine PSs.imp (pss_cons q4 (pss_cons q5 (pss_cons q6 (pss_cons q7 (pss_cons q8 (pss_cons q9 (pss_one q10))))))) fun T σ H hq => ?_
    obtain ⟨a, hl, a1, a2, hf⟩ := hq
    have g1 : ∀ {i : Nat} {v : Option V} {τ : L2.St} {u : Option (Option V)}, i ≠ 1 → τ[1]? = u → (τ.set i v)[1]? = u := fun hi e => by rw [List.getElem?_set_ne hi]; exact e
    have g3 : ∀ {v : Option V} {τ : L2.St}, τ.length = 5 → (τ.set 3 v)[3]? = some v := fun e => List.getElem?_set_self (by omega)
    refine ⟨a, a1, a2, fun l1 H1 n1 b1 c1 => ?_⟩
    have k1 : (σ.set 3 (some (.ref l1))).length = 5 := by rw [List.length_set]; exact hl
    refine ⟨a, l1, _, g1 (by decide) a1, c1 _ _ a2, g3 hl, b1, (by simp only [List.length_map, List.length_append]; decide +kernel), fun l2 H2 n2 b2 c2 => ?_⟩
    have k2 : ((σ.set 3 (some (.ref l1))).set 3 (some (.ref l2))).length = 5 := by rw [List.length_set]; exact k1
    refine ⟨a, l2, _, g1 (by decide) (g1 (by decide) a1), c2 _ _ (c1 _ _ a2), g3 k1, b2, (by simp only [List.length_map, List.length_append]; decide +kernel), fun l3 H3 n3 b3 c3 => ?_⟩
    have k3 : (((σ.set 3 (some (.ref l1))).set 3 (some (.ref l2))).set 3 (some (.ref l3))).length = 5 := by rw [List.length_set]; exact k2
    refine ⟨a, l3, _, g1 (by decide) (g1 (by decide) (g1 (by decide) a1)), c3 _ _ (c2 _ _ (c1 _ _ a2)), g3 k2, b3, (by simp only [List.length_map, List.length_append]; decide +kernel), fun l4 H4 n4 b4 c4 => ?_⟩
    have k4 : ((((σ.set 3 (some (.ref l1))).set 3 (some (.ref l2))).set 3 (some (.ref l3))).set 3 (some (.ref l4))).length = 5 := by rw [List.length_set]; exact k3
    have a4 := c4 _ _ (c3 _ _ (c2 _ _ (c1 _ _ a2)))
    have na : a ≠ l4 := fun z => by
      rw [z, b4] at a4
      cases a4
    refine ⟨a, l4, _, g1 (by decide) (g1 (by decide) (g1 (by decide) (g1 (by decide) a1))), a4, g3 k3, b4, (by simp only [List.length_map, List.length_append]; decide +kernel), fun q H6 b6 c6 => ?_⟩
    have hn4 : H l4 = none := by
      cases e : H l4 with
      | none => rfl
      | some o =>
        have := c3 _ _ (c2 _ _ (c1 _ _ e))
        rw [n4] at this
        cases this
    have up : ∀ b o, H b = some o → H6 b = some o := fun b o e => c6 _ _ (by rw [upd_ne (ne_of_none e hn4)]; exact c4 _ _ (c3 _ _ (c2 _ _ (c1 _ _ e))))
    have kl : ((((σ.set 3 (some (.ref l1))).set 3 (some (.ref l2))).set 3 (some (.ref l3))).set 3 (some (.ref l4))).length = 5 := k4
    refine ⟨a, l4, q, zNames.map fun y => decide (y = y0), _, zPairs.idxOf (y0, w), .str ⟨w.toArray⟩, g1 (by decide) (g1 (by decide) (g1 (by decide) (g1 (by decide) (g1 (by decide) a1)))), c6 _ _ (by rw [upd_ne na]; exact a4), by rw [List.getElem?_set_ne (by decide)]; exact g3 k3, c6 _ _ upd_same, List.getElem?_set_self (by omega), b6, ?_⟩
    simp only [zPairs, List.mem_cons, Prod.mk.injEq, List.not_mem_nil, or_false] at hy
    rcases hy with ⟨rfl, rfl⟩ | ⟨rfl, rfl⟩ | ⟨rfl, rfl⟩ | ⟨rfl, rfl⟩ | ⟨rfl, rfl⟩ <;> exact ⟨by decide +kernel, by decide +kernel, by decide +kernel, rfl, hf _ up⟩
  · cases h
end
section
variable {X : Cx}
theorem n_slot (hn : X.N = zN) (hl : ∀ x ∈ zN, X.env.scope.names.lookup x = some .local) {x : Str} {i : Nat} {p : Pos} (h : zN[i]? = some x) : PE X (.Name x p) (tVar i) := by
  have hm := List.mem_of_getElem? h
  have h1 : (x == ("__debug__" : Str)) = false ∧ (x == ("__classdict__" : Str)) = false := by
    have hm' := hm
    simp only [List.mem_cons, List.not_mem_nil, or_false] at hm'
    rcases hm' with rfl | rfl | rfl | rfl | rfl <;> exact ⟨by decide +kernel, by decide +kernel⟩
  exact pe_var (by rw [hn]; exact h) (.inl (hl x hm)) h1.1 h1.2
theorem zN_nd : zN.Nodup := by decide +kernel
theorem z1_ps (hn : X.N = zN) (hl : ∀ x ∈ zN, X.env.scope.names.lookup x = some .local) {st : Stmt} (h : z1B st = true) : PS X st (fun T σ H => T.nx (σ.set 1 (some .non)) H) := by
  unfold z1B at h
  split at h
  · rename_i x p1 j p2 p3
    simp only [decide_eq_true_eq] at h
    subst h
    have lc := hl "caught" (by decide +kernel)
    exact PS.imp (ps_set (by rw [hn]; exact zN_nd) (by rw [hn]; rfl : X.N[1]? = some ("caught" : Str)) (.inl lc) pe_non rfl (.inr lc)) fun T σ H hq => hq
  · cases h
theorem z3_ps (hn : X.N = zN) (hl : ∀ x ∈ zN, X.env.scope.names.lookup x = some .local) {st : Stmt} (h : z3B st = true) : PS X st (fun T σ H => ∃ v, σ[1]? = some (some v) ∧ (v = .non → T.rt (.str ⟨fineS.toArray⟩) H) ∧ (v ≠ .non → T.nx σ H)) := by
  unfold z3B at h
  split at h
  · rename_i x p1 j p2 p3 z j2 p4 p5 p6
    simp only [Bool.and_eq_true, decide_eq_true_eq] at h
    obtain ⟨rfl, rfl⟩ := h
    refine PS.imp (ps_if (pt_cmpR op_isN (n_slot hn hl (i := 1) rfl) pe_non rfl) (pss_one (ps_ret pe_str)) pss_nil) fun T σ H hq => ?_
    obtain ⟨v, h1, h2, h3⟩ := hq
    refine ⟨v, h1, rfl, _, rfl, ?_⟩
    by_cases e : v = .non
    · rw [decide_eq_true e]
      exact h2 e
    · rw [decide_eq_false e]
      exact h3 e
  · cases h
end
/-- what the head tells of the classes -/
structure ZFacts (K : PySem.W.Frag) (mg : Str → Option Value) (c : Cfg) (ws : List (Nat × S)) (T : Addr) : Prop where
  mi : mg "isinstance" = none
  mv : mg "ValueError" = none
  mt : mg "TreadError" = some (.ref T)
  of : ∀ i z, lookW ws i = some z → ∃ y0, (y0, z) ∈ zPairs ∧ PySem.W.exmOne K (xv K c i) (.ref T) = some true ∧ ExcC K (He.ga K (c.excs.getD i Str.empty)) ∧ PySem.W.kitOne K (xv K c i) (.type "ValueError") = some true ∧
    ∀ y ∈ zNames, ∃ C : Addr, mg y = some (.ref C) ∧ PySem.W.kitOne K (xv K c i) (.ref C) = some (decide (y = y0))
theorem ze_lam {P : Program} {w : World} {K : PySem.W.Frag} {mg : Str → Option Value} {base : Heap} {c : Cfg} {x : Str} {ws : List (Nat × S)} {T : Addr} {g : Addr} {pg : Arguments} {bg : List Stmt} {sg : Scope} {dV kV doc pm cdv ct oc : Value} {an od : Option Addr} {osl : Array (Option Value)} {N : List Str} {a : Str}
    (g1 : mg x = some (.ref g)) (g2 : PySem.W.keepIn K (.ref g) = true) (g3 : K.lookup g = some ⟨oc, od, .func (PySem.W.fnOf x x pg bg sg dV kV doc pm an cdv ct), osl⟩) (g4 : PySem.W.codeIn K cdv x = true) (g5 : Binds K (PySem.W.fnOf x x pg bg sg dV kV doc pm an cdv ct) [a] []) (g6 : FnScope N [a] sg)
    (ha : N[0]? = some a) (hb : zeB N sg bg = true) (hF : ZFacts K mg c ws T) : LamFn P w K mg base c x false ws := by
  unfold zeB at hb
  split at hb
  · rename_i s1 s2 s3 rest
    simp only [Bool.and_eq_true, decide_eq_true_eq, List.all_eq_true] at hb
    obtain ⟨⟨rfl, e1⟩, ⟨e2, e3, e4, e5⟩, h1, h2, h3, h4⟩ := hb
    cases ha
    refine ⟨g, "act", pg, _, sg, dV, kV, doc, pm, cdv, ct, oc, an, od, osl, zN, g1, g2, g3, g4, g5, g6, rfl, .inl (e1 _ (by decide +kernel)), ⟨by decide +kernel, by decide +kernel⟩, ?_⟩
    rintro X rfl rfl rfl rfl rfl q f c' s H Q tl act hc h
    obtain ⟨X', hX'⟩ : ∃ X', X' = (cxOf C8.CX0 X.prog X.w X.K X.mg X.base zN x sg g cdv X.A X.stack s H C8.E0).nox := ⟨_, rfl⟩
    have hn : X'.N = zN := by rw [hX']; rfl
    have hl : ∀ x ∈ zN, X'.env.scope.names.lookup x = some .local := by rw [hX']; exact e1
    have glo : ∀ y, glB sg y = true → Gl X' y := fun y hy => by
      rw [hX']
      unfold glB at hy
      split at hy
      · rename_i z
        exact z
      · cases hy
    have q1 := z1_ps hn hl h1
    have q3 := z3_ps hn hl h3
    have qr : PSs X' rest (fun E σ H => ∃ i : Nat × S × Str, (lookW ws i.1 = some i.2.1 ∧ (i.2.2, i.2.1) ∈ zPairs ∧ ExcC X.K (He.ga X.K (c.excs.getD i.1 Str.empty)) ∧ PySem.W.kitOne X.K (xv X.K c i.1) (.type "ValueError") = some true ∧ ∀ y ∈ zNames, ∃ C : Addr, X.mg y = some (.ref C) ∧ PySem.W.kitOne X.K (xv X.K c i.1) (.ref C) = some (decide (y = i.2.2))) ∧
        ∃ a : Addr, σ.length = 5 ∧ σ[1]? = some (some (.ref a)) ∧ H a = some (ExT (.ref (He.ga X.K (c.excs.getD i.1 Str.empty))) a) ∧ ∀ H', (∀ b o, H b = some o → H' b = some o) → E.rt (.str ⟨i.2.1.toArray⟩) H') := by
      refine pss_ex fun i hi => ?_
      obtain ⟨f1, f2, f3, f4, f5⟩ := hi
      refine rest_pss (y0 := i.2.2) ⟨hn, fun x hx => hl x (by rw [hn] at hx; exact hx), ⟨glo _ e2, by rw [hX']; exact hF.mi⟩, ⟨glo _ e3, by rw [hX']; exact hF.mv, by rw [hX']; exact f4⟩, by rw [hX']; exact f3⟩ (fun y hy => ?_) f2 h4
      obtain ⟨C, c1, c2⟩ := f5 y hy
      exact ⟨glo y (e5 y hy).1, (e5 y hy).2, C, by rw [hX']; exact c1, by rw [hX']; exact c2⟩
    have q2 : PS X' s2 (fun E σ H => ∃ (Ech : XK) (Q0 : VK), (∀ cls d σ' H', Ech cls d H' → wAsT X.K 5 (.ref T) 2 (fun a cls E σ H => ∃ v, σ[2]? = some (some v) ∧ E.nx (σ.set 1 (some v)) H) (fun _ _ _ _ => False) E cls d σ' H') ∧ σ[0]? = some (some (.ref f)) ∧ H c' = some (LamX.CodeO c' q) ∧ tl Ech H Q0 ∧ ∀ v H', Q0 v H' → E.nx σ H') := by
      unfold z2B at h2
      split at h2
      · rename_i a p1 p2 p3 y p4 e z p5 u p6 p7 p8 p9
        simp only [Bool.and_eq_true, decide_eq_true_eq] at h2
        obtain ⟨rfl, rfl, rfl, rfl, rfl⟩ := h2
        have nd : X'.N.Nodup := by rw [hn]; exact zN_nd
        have lcc := hl "caught" (by decide +kernel)
        have lce := hl "e" (by decide +kernel)
        have hnl : X'.N.length = 5 := by rw [hn]; rfl
        have hgT : Names X' "TreadError" (.ref T) := ⟨glo _ e4, by decide +kernel, .inl (by rw [hX']; exact hF.mt)⟩
        have hK : X'.K = X.K := by subst hX'; rfl
        have key := ps_try_trk (X := X') (i := 2) (n := "e") (c := .ref T) (pos := p9) (np := p4) (pos' := p8) (x := "TreadError") (body := [.Expr (.Call (.Name "act" p1) [] [] p2) p3]) (b₀ := .Assign [.Name "caught" p5] (.Name "e" p6) p7) (suite := [])
          (tb := fun W E σ H => ∃ (Ech : XK) (Q0 : VK), (∀ cls d σ' H', Ech cls d H' → W cls d σ' H') ∧ σ[0]? = some (some (.ref f)) ∧ H c' = some (LamX.CodeO c' q) ∧ tl Ech H Q0 ∧ ∀ v H', Q0 v H' → E.nx σ H')
          (ts := fun a cls E σ H => ∃ v, σ[2]? = some (some v) ∧ E.nx (σ.set 1 (some v)) H) (Wout := fun _ _ _ _ => False)
          (by subst hX'; rfl) (by subst hX'; rfl) (by subst hX'; rfl) (by subst hX'; rfl) nd (by rw [hn]; rfl) lce hgT (by rw [hX']; exact LamX.takes0) (fun W pn xe tk _ => ?_) (fun a oe cls pn _ _ => ?_)
        · rw [hnl, hK] at key
          exact key
        · subst hX'
          refine ⟨fun pins s' σ H' E I h' => ?_⟩
          obtain ⟨Ech, Q0, hW, k1, k2, k3, k4⟩ := h'
          have hp := pe_weak (act W pn xe Ech p1 p2 tk hW)
          have hq := pss_one (ps_expr (pos := p3) hp rfl)
          exact hq.run pins s' σ H' E I ⟨Q0, ⟨k1, k2, k3⟩, k4⟩
        · exact pss_one (PS.imp (ps_set (X := X'.suite a ((a, oe) :: pn)) nd (by rw [hn]; rfl : X'.N[1]? = some ("caught" : Str)) (.inl lcc) (n_slot (X := X'.suite a ((a, oe) :: pn)) hn hl (i := 2) rfl) rfl (.inr lcc)) fun E σ H hq => hq)
      · cases h2
    refine ⟨_, by rw [← hX']; exact pss_cons q1 (pss_cons q2 (pss_cons q3 qr)), ?_⟩
    refine ⟨fun cls d H' => d = none ∧ ∃ i z, lookW ws i = some z ∧ cls = xv X.K c i ∧ ∀ H'' : Hp, (∀ b o, H' b = some o → H'' b = some o) → Q (.str ⟨z.toArray⟩) H'', fun v H' => Q (lamVV false v) H', fun cls d σ' H' hE => ?_, rfl, hc, h, fun v H' hq => ⟨.non, rfl, fun _ => hq, fun n => absurd rfl n⟩⟩
    obtain ⟨rfl, i, z, l1, rfl, l3⟩ := hE
    obtain ⟨y0, f1, f2, f3, f4, f5⟩ := hF.of i z l1
    refine ⟨rfl, true, f2, fun _ hlen a na => ⟨.ref a, List.getElem?_set_self (by omega), fun ha => ?_⟩, fun z => nomatch z⟩
    have hs1 : (((σ'.set 2 (some (V.ref a))).set 1 (some (V.ref a))).set 2 none)[1]? = some (some (.ref a)) := by
      rw [List.getElem?_set_ne (by decide)]
      exact List.getElem?_set_self (by rw [List.length_set]; omega)
    exact ⟨.ref a, hs1, (fun z => nomatch z), fun _ => ⟨(i, z, y0), ⟨l1, f1, f3, f4, f5⟩, a, by simp only [List.length_set]; exact hlen, hs1, upd_same, fun H2 up => l3 H2 fun b o e => up b o (by rw [upd_ne (ne_of_none e ha)]; exact e)⟩⟩
  · cases hb
end Mi.Tk
end
section
set_option linter.all false
set_option maxRecDepth 100000
set_option Elab.async false
set_option maxHeartbeats 2000000
/-! A row's facts: constants, tables, errors, the key. -/
namespace Mi
open PySem PySem.Spec PyProof.Rows L2
section
variable {R : Row} {P : Program} {w : World} {K : PySem.W.Frag} {h : Heap} {mg : Str → Option Value} {base : Heap}
open Row
theorem find_none {Pm : Params} {x : Str} : ∀ {l : List DictEntry} {ks : List Str}, l.map He.keyOf = He.keysIn Pm ks → x ∉ ks → l.find? (·.key.isStr x) = none ∧ l.any (·.refKey) = false
  | [], _, _, _ => ⟨rfl, rfl⟩
  | e :: r, [], h, _ => by cases h
  | e :: r, k :: ks, h, hx => by
    have h1 : He.keyOf e :: r.map He.keyOf = some (k, PyData.keyHash Pm k) :: He.keysIn Pm ks := h
    injection h1 with h2 h3
    obtain ⟨i1, i2⟩ := find_none h3 fun z => hx (List.mem_cons_of_mem _ z)
    unfold He.keyOf at h2
    split at h2
    · rename_i y t q
      have h4 := Option.some.inj h2
      obtain ⟨h5, h6⟩ := Prod.mk.inj h4
      have hne : y ≠ x := fun z => hx (by rw [← z, h5]; exact List.mem_cons_self ..)
      refine ⟨?_, ?_⟩
      · rw [List.find?_cons, q]
        have e1 : (Value.str y t).isStr x = false := by
          show (y == x) = false
          exact beq_eq_false_iff_ne.mpr hne
        rw [e1]
        exact i1
      · rw [List.any_cons]
        have e2 : e.refKey = false := by
          unfold DictEntry.refKey
          rw [q]
        rw [e2, i2]
        rfl
    · cases h2
theorem lookT_mem {t : List (S × S)} {k v : S} (h : lookT t k = some v) : (k, v) ∈ t := by
  unfold lookT at h
  cases e : t.find? fun kv => decide (kv.1 = k) with
  | none =>
    rw [e] at h
    cases h
  | some p =>
    rw [e] at h
    have h1 := List.find?_some e
    have h2 := List.mem_of_find?_eq_some e
    have e1 : p.1 = k := of_decide_eq_true h1
    have e2 : p.2 = v := Option.some.inj h
    rw [← e1, ← e2]
    exact h2
theorem lookT_none {t : List (S × S)} {k : S} (h : lookT t k = none) : (⟨k.toArray⟩ : Str) ∉ t.map fun p => (⟨p.1.toArray⟩ : Str) := by
  intro z
  obtain ⟨p, hp, e⟩ := List.mem_map.mp z
  have e1 : p.1 = k := by
    have e2 : p.1.toArray = k.toArray := congrArg Str.cps e
    simpa using e2
  unfold lookT at h
  cases q : t.find? fun kv => decide (kv.1 = k) with
  | none =>
    have := List.find?_eq_none.mp q p hp
    simp [e1] at this
  | some p2 =>
    rw [q] at h
    cases h
/-- a def that calls what it is handed -/
def Row.lamOk (R : Row) (e : Str × Bool × List (Nat × S)) : Bool := R.ho.any fun p => decide (p.1 = e.1) && (match e.2.1, e.2.2 with
  | true, [(i, w)] => scB (R.N p.2) 1 (defScope (R.st p.2)) && (ogB R.c (R.N p.2) i w (defScope (R.st p.2)) (defBody (R.st p.2)) && (match R.c.excs[i]? with
    | some y => R.ex1.contains y
    | none => false))
  | false, ws => scB (R.N p.2) 1 (defScope (R.st p.2)) && (Tk.zeB (R.N p.2) (defScope (R.st p.2)) (defBody (R.st p.2)) && Tk.zStat R.c ws)
  | _, _ => false)
def Row.lamsOk (R : Row) : Bool := R.c.lams.all R.lamOk
def Row.BindHo (R : Row) : List (Str × Nat) → Prop
  | [] => True
  | p :: r => (∀ (kV doc pm : Value) (an : Option Addr) (cdv ct : Value) (us : List Value), us.length = 1 → bindArgs (PySem.W.fnOf p.1 p.1 (defArgs (R.st p.2)) (defBody (R.st p.2)) (defScope (R.st p.2)) .none kV doc pm an cdv ct) ⟨us, []⟩ = pure (((R.N p.2).take 1).zip us)) ∧ R.BindHo r
theorem bindHo_ok {R : Row} : ∀ {l : List (Str × Nat)}, R.BindHo l → ∀ {p : Str × Nat}, p ∈ l → ∀ (kV doc pm : Value) (an : Option Addr) (cdv ct : Value) (us : List Value), us.length = 1 → bindArgs (PySem.W.fnOf p.1 p.1 (defArgs (R.st p.2)) (defBody (R.st p.2)) (defScope (R.st p.2)) .none kV doc pm an cdv ct) ⟨us, []⟩ = pure (((R.N p.2).take 1).zip us)
  | [], _, p, h => by cases h
  | q :: r, hb, p, h => by
    rcases List.mem_cons.mp h with rfl | h'
    · exact hb.1
    · exact bindHo_ok hb.2 h'
theorem row_lam (hl : R.lamsOk = true) (hz : R.c.lams.all (Tk.zLam K R.c) = true) (hB : R.BindHo R.ho) (X : K.In h) (G : h.Ns mainGlobals mg) (cd : He.SaysD R.fa R.fn K) : ∀ x m ws, (x, m, ws) ∈ R.c.lams → LamFn P w K mg base R.c x m ws := fun x m ws hm => by
  have h1 := List.all_eq_true.mp hl _ hm
  unfold Row.lamOk at h1
  obtain ⟨⟨y, k⟩, hp, h2⟩ := List.any_eq_true.mp h1
  simp only [Bool.and_eq_true, decide_eq_true_eq] at h2
  obtain ⟨rfl, h3⟩ := h2
  split at h3
  · rename_i i wd
    simp only [Bool.and_eq_true, decide_eq_true_eq] at h3
    obtain ⟨s1, s2, s3⟩ := h3
    obtain ⟨Sg, l1, l2⟩ := scB_ok s1
    have hd : R.dd k y ∈ R.fn := List.mem_append_right _ (List.mem_map.mpr ⟨(y, k), hp, rfl⟩)
    obtain ⟨fd, F0⟩ := cd.defs hd
    have F : FunD K y y (defArgs (R.st k)) (defBody (R.st k)) (defScope (R.st k)) [] [] (He.ga K y) fd := F0
    have hb := bindHo_ok hB hp
    have bn : Binds K fd ((R.N k).take 1) [] := F.bindsN fun kV doc pm an cdv ct us hl => hb kV doc pm an cdv ct us (by rw [hl, l1])
    have kp := F.kp
    have gl : mg y = some (.ref (He.ga K y)) := He.glo_ok X G (cd.facts (f := .glo y) (by
      unfold Row.fa
      simp only [List.mem_append]
      exact .inr (.inr (.inr (.inr (.inr (.inr (.inl (List.mem_map.mpr ⟨_, hp, rfl⟩)))))))))
    obtain ⟨a, ha⟩ : ∃ a, (R.N k).take 1 = [a] := by
      match e : (R.N k).take 1, l1 with
      | [a], _ => exact ⟨a, rfl⟩
    have hN : (R.N k)[0]? = some a := by
      match e : R.N k with
      | [] => rw [e] at ha; cases ha
      | b :: r => rw [e] at ha; cases ha; rfl
    rw [ha] at bn Sg
    obtain ⟨oc, od, dV, kV, doc, pm, an, cdv, ct, osl, rfl, lk, hcd, _, _⟩ := F.ex
    refine og_lam gl kp lk hcd bn Sg hN s2 fun z hz => ⟨?_, ?_⟩
    · exact He.glo_ok X G (cd.facts (f := .glo z) (by
        unfold Row.fa
        simp only [List.mem_append]
        exact .inr (.inr (.inl (List.mem_map.mpr ⟨_, List.mem_of_getElem? hz, rfl⟩)))))
    · rw [hz] at s3
      exact He.exm_ok (cd.facts (f := .exm z z true) (by
        unfold Row.fa
        simp only [List.mem_append]
        exact .inr (.inr (.inr (.inr (.inr (.inr (.inr (List.mem_map.mpr ⟨_, List.contains_iff_mem.mp s3, rfl⟩)))))))))
  · rename_i ws'
    simp only [Bool.and_eq_true] at h3
    obtain ⟨s1, s2, s3⟩ := h3
    obtain ⟨Sg, l1, l2⟩ := scB_ok s1
    have hd : R.dd k y ∈ R.fn := List.mem_append_right _ (List.mem_map.mpr ⟨(y, k), hp, rfl⟩)
    obtain ⟨fd, F0⟩ := cd.defs hd
    have F : FunD K y y (defArgs (R.st k)) (defBody (R.st k)) (defScope (R.st k)) [] [] (He.ga K y) fd := F0
    have hb := bindHo_ok hB hp
    have bn : Binds K fd ((R.N k).take 1) [] := F.bindsN fun kV doc pm an cdv ct us hl => hb kV doc pm an cdv ct us (by rw [hl, l1])
    have kp := F.kp
    have gl : mg y = some (.ref (He.ga K y)) := He.glo_ok X G (cd.facts (f := .glo y) (by
      unfold Row.fa
      simp only [List.mem_append]
      exact .inr (.inr (.inr (.inr (.inr (.inr (.inl (List.mem_map.mpr ⟨_, hp, rfl⟩)))))))))
    obtain ⟨a, ha⟩ : ∃ a, (R.N k).take 1 = [a] := by
      match e : (R.N k).take 1, l1 with
      | [a], _ => exact ⟨a, rfl⟩
    have hN : (R.N k)[0]? = some a := by
      match e : R.N k with
      | [] => rw [e] at ha; cases ha
      | b :: r => rw [e] at ha; cases ha; rfl
    rw [ha] at bn Sg
    obtain ⟨oc, od, dV, kV, doc, pm, an, cdv, ct, osl, rfl, lk, hcd, _, _⟩ := F.ex
    simp only [Tk.zStat, Bool.and_eq_true, List.all_eq_true] at s3
    obtain ⟨⟨t1, t2⟩, t3, t4, t5⟩ := s3
    have fr : ∀ z, R.c.free.contains z = true → mg z = none := fun z hz => He.free_ok X G (cd.facts (f := .free z) (by
      unfold Row.fa
      simp only [List.mem_append]
      exact .inr (.inl (List.mem_map.mpr ⟨_, List.contains_iff_mem.mp hz, rfl⟩))))
    have gx : ∀ z, R.c.excs.contains z = true → mg z = some (.ref (He.ga K z)) := fun z hz => He.glo_ok X G (cd.facts (f := .glo z) (by
      unfold Row.fa
      simp only [List.mem_append]
      exact .inr (.inr (.inl (List.mem_map.mpr ⟨_, List.contains_iff_mem.mp hz, rfl⟩)))))
    have hz1 := List.all_eq_true.mp hz _ hm
    refine Tk.ze_lam gl kp lk hcd bn Sg hN s2 ⟨fr _ t1, fr _ t2, gx _ t3, fun i z hi => ?_⟩
    have hmi := Tk.lookW_in hi
    have h4 : Tk.zF1 K R.c i = true := List.all_eq_true.mp hz1 _ hmi
    simp only [Tk.zF1, Bool.and_eq_true, decide_eq_true_eq, List.all_eq_true] at h4
    obtain ⟨f1, f2, f3, f4⟩ := h4
    exact ⟨_, List.contains_iff_mem.mp (t5 _ hmi), f1, Tk.exB_ok f2, f3, fun w hw => ⟨_, gx _ (t4 _ hw), f4 _ hw⟩⟩
  · cases h3
theorem row_F0 {Xs : Heap} (hok : R.ok = true) (hlm : R.lamsOk = true) (hBo : R.BindHo R.ho) (X : K.In h) (G : h.Ns mainGlobals mg) (c : He.SaysX R.fa R.fn R.ts R.tf R.exB w Xs K) (hkey : R.c.key = true → ∃ f, mg "place_key" = some (.ref f) ∧ KeyTurn P w K mg base f)
    {cl : Cl} {k : Nat} (hd : ∀ (f : Nat) (x : Str) (n : Nat), R.c.defs[f]? = some (x, n) → ∃ fa fd ps, mg x = some (.ref fa) ∧ PySem.W.keepIn K (.ref fa) = true ∧ Binds K fd ps [] ∧ ps.length = n ∧ KwB R.c f fd ps ∧ FnG (R.c.rpf f) P w K mg base k fa fd ps (spC K R.c cl f n)) :
    Fc P w K mg base R.c cl k := by
  simp only [Row.ok, Bool.and_eq_true, decide_eq_true_eq] at hok
  obtain ⟨_, _, h3, h4⟩ := hok
  have cd := c.t.d
  refine ⟨hd, fun x d hm => ?_, fun t x tb ht => ?_, fun x hx => ?_, fun i x hx => ?_, hkey, row_lam hlm (Row.exB_ok c.more).2.2.1 hBo X G cd, fun e he => List.all_eq_true.mp (Row.exB_ok c.more).2.2.2.1 e he, fun e he => List.all_eq_true.mp (Row.exB_ok c.more).2.2.2.2 e he⟩
  · have hv := List.all_eq_true.mp h3 _ hm
    have hf : conF (x, d) ∈ R.fa := by
      unfold Row.fa
      simp only [List.mem_append]
      exact .inr (.inr (.inr (.inr (.inr (.inl (List.mem_map.mpr ⟨_, hm, rfl⟩))))))
    have f := cd.facts hf
    cases d with
    | int i =>
      obtain ⟨t, e⟩ := He.int_ok X G (x := x) (i := i) f
      exact ⟨_, .int i, e, ⟨t, rfl⟩, fun _ _ _ _ => .int i⟩
    | str z =>
      obtain ⟨t, e⟩ := He.str_ok X G (x := x) (z := ⟨z.toArray⟩) f
      have hv2 : strB z = true := hv
      unfold strB at hv2
      simp only [Bool.and_eq_true, decide_eq_true_eq] at hv2
      exact ⟨_, .str ⟨z.toArray⟩, e, ⟨t, rfl⟩, fun _ _ _ _ => .str z hv2.1 hv2.2⟩
    | _ => cases hv
  · have hm := List.mem_of_getElem? ht
    have hf : He.Fa.glo x ∈ R.fa := by
      unfold Row.fa
      simp only [List.mem_append]
      exact .inr (.inr (.inr (.inr (.inl (List.mem_map.mpr ⟨_, hm, rfl⟩)))))
    have hg := He.glo_ok X G (cd.facts hf)
    have hts : R.ts[t]? = some (tsOf (x, tb)) := by
      unfold Row.ts
      rw [List.getElem?_map, ht]
      rfl
    have e0 : R.ts.map (fun t => He.dicW K (t.1 K)) = R.ts.map fun t => some (He.keysIn w.params t.2) := congrArg (fun z : He.AlT => z.2) c.t
    have e1 : (R.ts.map fun t => He.dicW K (t.1 K))[t]? = (R.ts.map fun t => some (He.keysIn w.params t.2))[t]? := by rw [e0]
    rw [List.getElem?_map, List.getElem?_map, hts] at e1
    have e2 : He.dicW K (He.ga K x) = some (He.keysIn w.params (tb.map fun p => ⟨p.1.toArray⟩)) := Option.some.inj e1
    obtain ⟨es, n, kd⟩ := He.dicW_ok e2
    have e3 : es.toList.map He.keyOf = He.keysIn w.params (tb.map fun p => ⟨p.1.toArray⟩) := by
      unfold He.dicW at e2
      rw [kd.at_] at e2
      dsimp only at e2
      split at e2
      · exact Option.some.inj e2
      · cases e2
    have hvb := List.all_eq_true.mp (Row.exB_ok c.more).1 _ hm
    have ht4 := List.all_eq_true.mp h4 _ hm
    refine ⟨_, es, n, hg, kd.at_, kd.lit, kd.low, fun k v hl => ?_, fun k hl => ?_⟩
    · have hmv := lookT_mem hl
      obtain ⟨u, u1, u2⟩ := He.valsB_ok hvb (q := (⟨k.toArray⟩, .str ⟨v.toArray⟩)) (List.mem_map.mpr ⟨_, hmv, rfl⟩)
      have hs := List.all_eq_true.mp (show tb.all (fun p => strB p.2) = true from ht4) _ hmv
      unfold strB at hs
      simp only [Bool.and_eq_true, decide_eq_true_eq] at hs
      exact ⟨⟨u, u1, u2⟩, hs.1, hs.2⟩
    · obtain ⟨f1, f2⟩ := find_none e3 (lookT_none hl)
      unfold PySem.W.nsIn
      rw [kd.at_]
      dsimp only
      rw [f1, f2]
      rfl
  · exact He.free_ok X G (cd.facts (f := .free x) (by
      unfold Row.fa
      simp only [List.mem_append]
      exact .inr (.inl (List.mem_map.mpr ⟨_, hx, rfl⟩))))
  · have hm := List.mem_of_getElem? hx
    have hf : He.Fa.glo x ∈ R.fa := by
      unfold Row.fa
      simp only [List.mem_append]
      exact .inr (.inr (.inl (List.mem_map.mpr ⟨_, hm, rfl⟩)))
    have hf2 : He.Fa.exc x ∈ R.fa := by
      unfold Row.fa
      simp only [List.mem_append]
      exact .inr (.inr (.inr (.inl (List.mem_map.mpr ⟨_, hm, rfl⟩))))
    obtain ⟨a1, a2, a3, a4⟩ := He.exc_ok (cd.facts hf2)
    exact ⟨_, _, _, _, PySem.F.excBase_ValueError, a1, He.glo_ok X G (cd.facts hf), a2, a3, a4⟩
end
end Mi
end
section
set_option linter.all false
set_option maxRecDepth 100000
set_option Elab.async false
set_option maxHeartbeats 2000000
/-! A row's law, from what the head tells and the plain law. -/
namespace Mi
open PySem PySem.Spec PyProof.Rows L2
namespace Row
def cN (R : Row) (k : Nat) : Cfg := { R.c with N := R.N k, dn := false }
def keyOk (R : Row) : Bool := match R.c.key with
  | false => true
  | true => (match R.c.defs[R.key]? with
    | some (x, n) => decide (x = "place_key") && (decide (n = 1) && (match R.N R.key with
      | [y] => keyBody y (defBody (R.st R.key)) && (keyScope y (defScope (R.st R.key)) && decide (("len" : Str) ∈ R.c.free))
      | _ => false))
    | none => false)
def penOk (R : Row) : Bool := match R.c.defs[R.pen]? with
  | some (_, n) => decide (n = 2) && (decide ((R.N R.pen).length = 5) && takeB { R.cN R.pen with rp := R.c.rpf R.pen } (defScope (R.st R.pen)) R.spr (defBody (R.st R.pen)))
  | none => false
def opnOk (R : Row) : Bool := match R.c.defs[R.opn]? with
  | some (_, n) => decide (n = 1) && (decide ((R.N R.opn).length = 4) && openB (R.cN R.opn) (defScope (R.st R.opn)) (defBody (R.st R.opn)))
  | none => false
def cL (R : Row) (x : Str) : Cfg := { R.c with N := R.N R.law, dn := R.c.tf.contains x }
def lawOk (R : Row) (x0 : Str) : Bool := match R.c.defs[R.law]?, R.c.defs[R.opn]?, defBody (R.st R.law) with
  | some (xl, n), some (xo, _), s :: b => decide (n = 1) && (decide ((R.N R.law).take 1 = [x0]) && (decide (2 ≤ (R.N R.law).length) && (penB (R.cL xl) (defScope (R.st R.law)) xo s && chkCs (R.cL xl) (defScope (R.st R.law)) R.lawC b)))
  | _, _, _ => false
def okX (R : Row) (x0 : Str) : Bool := R.keyOk && (R.penOk && (R.opnOk && (R.lawOk x0 && R.lamsOk)))
end Row
section
variable {R : Row} {P : Program} {w : World} {K : PySem.W.Frag} {h : Heap} {mg : Str → Option Value} {base : Heap}
open Row
/-- what is needed of a special def -/
theorem row_one (hok : R.ok = true) (hB : BindFrom R 0 R.c.defs) (c : He.SaysD R.fa R.fn K) {k : Nat} {x : Str} {n : Nat} (hk : R.c.defs[k]? = some (x, n)) :
    FnScope (R.N k) ((R.N k).take n) (defScope (R.st k)) ∧ ((R.N k).take n).length = n ∧ ∃ fd, FunD K x x (defArgs (R.st k)) (defBody (R.st k)) (defScope (R.st k)) [] [] (He.ga K x) fd ∧ Binds K fd ((R.N k).take n) [] ∧
      ∀ (s : Shared) (us : List Value), us.length = n → BindsTo s fd ⟨us, []⟩ (((R.N k).take n).zip us) := by
  simp only [Row.ok, Bool.and_eq_true, decide_eq_true_eq] at hok
  obtain ⟨h1, h2, h3, h4⟩ := hok
  have hc := chkFrom_ok h2 hk
  rw [Nat.zero_add] at hc
  simp only [chk1, Bool.and_eq_true, decide_eq_true_eq] at hc
  obtain ⟨S, l1, l2⟩ := scB_ok hc.1
  obtain ⟨fd, F⟩ := row_fun c hk
  have hb := bindFrom_ok hB hk
  rw [Nat.zero_add] at hb
  exact ⟨S, l1, fd, F, F.bindsN fun kV doc pm an cdv ct us hl => hb kV doc pm an cdv ct us (by rw [hl, l1]), fun s us hl => F.bindsA (fun kV doc pm an cdv ct us hl => hb kV doc pm an cdv ct us (by rw [hl, l1])) s us (by rw [hl, l1])⟩
theorem row_law {x0 xl : Str} {m nl : Nat} (hok : R.ok = true) (hx : R.okX x0 = true) (hB : BindFrom R 0 R.c.defs) (hBo : R.BindHo R.ho) (hK : ∀ e, e ∈ R.c.kws → KwOk R e) (X : K.In h) (G : h.Ns mainGlobals mg) (c : He.SaysX R.fa R.fn R.ts R.tf R.exB w h K)
    (hspr : ∀ k, 5 ≤ k → ∀ (z a : Int) (b : Nat) (P : Nat → D → Prop) (E : Nat → Nat → Prop), 0 ≤ a → a ≤ 1000000 → (∀ r : Int, P b (.int r)) → (Mi.call R.dfs R.c.tb R.pen k R.spr [.int z, .int a]).wp b P E)
    (hm : (exs (Mi.call R.dfs R.c.tb R.pen (m + 1)) R.c.tb R.lawC (lawS (R.N R.law).length)).wp 1000000 (fun _ fl => fl = .ret (.bl true)) (fun _ _ => False)) (hl : R.c.defs[R.law]? = some (xl, nl)) :
    mg xl = some (.ref (He.ga K xl)) ∧ ∃ fd, (∀ (s : Shared) (u : Value), BindsTo s fd ⟨[u], []⟩ [(x0, u)]) ∧ ∀ base : Heap, Mod K mg base → (∀ p ∈ R.tf.map (He.cT K), LamX.TabB base mg p.1 p.2) → FnG true P w K mg base (3 * (m + 1) + 3) (He.ga K xl) fd [x0] (spLaw K (R.c.T K)) := by
  have cd := c.t.d
  simp only [Row.okX, Bool.and_eq_true] at hx
  obtain ⟨x1, x2, x3, x4, x5⟩ := hx
  have fc : ∀ (base : Heap) (T : TbOk K mg base R.c) (k : Nat), Fc P w K mg base R.c (Mi.call R.dfs R.c.tb R.pen k) (3 * k) := fun base T => by
    have F0 : ∀ cl k, (∀ (f : Nat) (x : Str) (n : Nat), R.c.defs[f]? = some (x, n) → ∃ fa fd ps, mg x = some (.ref fa) ∧ PySem.W.keepIn K (.ref fa) = true ∧ Binds K fd ps [] ∧ ps.length = n ∧ KwB R.c f fd ps ∧ FnG (R.c.rpf f) P w K mg base k fa fd ps (spC K R.c cl f n)) → Fc P w K mg base R.c cl k := fun cl k hd => by
      refine row_F0 hok x5 hBo X G c (fun hk => ?_) hd
      unfold Row.keyOk at x1
      rw [hk] at x1
      dsimp only at x1
      split at x1
      · rename_i x n e1
        simp only [Bool.and_eq_true, decide_eq_true_eq] at x1
        obtain ⟨rfl, rfl, x1⟩ := x1
        obtain ⟨S, l1, fd, F, bn, _⟩ := row_one hok hB cd e1
        split at x1
        · rename_i y e2
          simp only [Bool.and_eq_true, decide_eq_true_eq] at x1
          obtain ⟨k1, k2, k3⟩ := x1
          rw [e2] at bn
          have gl := row_glo X G cd e1
          have hlen : mg "len" = none := He.free_ok X G (cd.facts (f := .free "len") (by
            unfold Row.fa
            simp only [List.mem_append]
            exact .inr (.inl (List.mem_map.mpr ⟨_, k3, rfl⟩))))
          obtain ⟨oc, od, dV, kV, doc, pm, an, cdv, ct, osl, rfl, lk, hcd, _, _⟩ := F.ex
          exact ⟨_, gl, key_turn lk hcd bn k1 k2 hlen⟩
        · cases x1
      · cases x1
    refine fc_all (Ns := []) T (fun f x n hk => row_def hok hB hK X G cd hk) (fun x n hk k Fk => ?_) F0
    unfold Row.penOk at x2
    rw [hk] at x2
    simp only [Bool.and_eq_true, decide_eq_true_eq] at x2
    obtain ⟨rfl, p2, p3⟩ := x2
    obtain ⟨S, l1, fd, F, bn, _⟩ := row_one hok hB cd hk
    have kp := F.kp
    have hkw := row_kw hK hk F l1
    obtain ⟨oc, od, dV, kV, doc, pm, an, cdv, ct, osl, rfl, lk, hcd, _, _⟩ := F.ex
    exact ⟨_, _, _, row_glo X G cd hk, kp, bn, l1, hkw, (pen_fn (x := x) Fk lk hcd S p2 l1 p3 (hspr k)).mono (by omega)⟩
  unfold Row.lawOk at x4
  unfold Row.opnOk at x3
  split at x4
  case h_2 => cases x4
  rename_i y1 n1 xo no s b q1 q2 q3
  rw [hl] at q1
  cases q1
  simp only [Bool.and_eq_true, decide_eq_true_eq] at x4
  obtain ⟨rfl, l2, l3, l4, l5⟩ := x4
  rw [q2] at x3
  simp only [Bool.and_eq_true, decide_eq_true_eq] at x3
  obtain ⟨rfl, o2, o3⟩ := x3
  obtain ⟨S, s1, fd, F, bn, ba⟩ := row_one hok hB cd hl
  obtain ⟨So, so1, fdo, Fo, bno, _⟩ := row_one hok hB cd q2
  have kpo := Fo.kp
  obtain ⟨oc', od', dV', kV', doc', pm', an', cdv', ct', osl', rfl, lk', hcd', _, _⟩ := Fo.ex
  rw [l2] at bn ba S s1
  refine ⟨row_glo X G cd hl, fd, fun s u => ba s [u] rfl, fun base M TB => ?_⟩
  obtain ⟨oc, od, dV, kV, doc, pm, an, cdv, ct, osl, rfl, lk, hcd, _, _⟩ := F.ex
  rw [q3] at lk ⊢
  have T : TbOk K mg base R.c := ⟨fun x hx => TB _ (List.mem_map.mpr ⟨(x, none), List.mem_map.mpr ⟨x, hx, rfl⟩, rfl⟩), by
    have e := (Row.exB_ok c.more).2.1
    unfold Row.tf at e
    rw [List.map_map] at e
    exact e⟩
  have hz : R.c.tf.contains xl = true → xl ∈ R.c.tf ∧ cdv = .ref (He.cT K (xl, none)).1 := fun z => by
    obtain ⟨c0, rfl⟩ := He.codeIn_ref hcd
    have e0 : He.codeOf K (xl, none) = c0 := He.codeOf_eq (p := (xl, none)) lk rfl
    refine ⟨List.contains_iff_mem.mp z, ?_⟩
    show Value.ref c0 = Value.ref (He.codeOf K (xl, none))
    rw [e0]
  exact law_fn (fc base T (m + 1)) T (R.c.tf.contains xl) lk hcd S l3 rfl (row_glo X G cd q2) kpo bno so1 ((open_fn (fc base T m) lk' hcd' So o2 so1 o3).mono (by omega)) l4 l5 hz hm
/-- the tables, as the top leaves them -/
def Row.cs (R : Row) (K : PySem.W.Frag) : List (Addr × Addr) := R.tf.map (He.cT K)
theorem row_tabs (X : K.In h) (c : He.SaysX R.fa R.fn R.ts R.tf R.exB w h K) (bm : ∃ (bm : Addr) (ob : Obj), mg "__builtins__" = some (.ref bm) ∧ bm ≠ builtinsNs ∧ h.get? bm = some ob ∧ ob.cls = .type "module" ∧ ob.dict = some builtinsNs ∧ ob.data = .plain) :
    Tab0 K mg h (R.cs K) (R.c.T K) := by
  have cm : ∀ {p : Addr × Addr}, p ∈ R.cs K → ∃ q ∈ R.tf, He.cT K q = p := fun {p} hp => List.mem_map.mp hp
  refine ⟨fun p hp => ?_, fun p hp => ?_, fun p hp => ?_, bm, fun p hp => ?_⟩
  · obtain ⟨q, hq, rfl⟩ := cm hp
    exact c.empty q hq
  · obtain ⟨q, hq, rfl⟩ := cm hp
    exact c.out q hq
  · obtain ⟨q, hq, rfl⟩ := cm hp
    exact PySem.W.codeHd_of_K X (c.hd q hq)
  · obtain ⟨x, hx, rfl⟩ := List.mem_map.mp hp
    exact List.mem_map.mpr ⟨He.cT K (x, none), List.mem_map.mpr ⟨(x, none), List.mem_map.mpr ⟨x, hx, rfl⟩, rfl⟩, rfl⟩
end
end Mi
end
section
set_option linter.all false
set_option maxRecDepth 100000
set_option Elab.async false
set_option maxHeartbeats 0
/-! The IR of the row (printed by gen.py). -/
namespace K44
open PySem PySem.Spec PyProof.Rows L2 Mi
def top (i : Nat) : Stmt := PySem.Challenge.pw_solvedtreads_k44_errors_by_hand.main.body.getD i (.Pass ⟨0, 0, 0, 0⟩)
def n_is_word : List Str := ["thing", "one"]
def d_is_word : Df := ⟨2, 1, (.cons (.ret (.and (.isi .str (.var 0)) (.bi .all (.cons (.lc (.it (.var 0)) (.nm 1) (.inTab false 0 (.var 1))) .nil)))) .nil)⟩
def n_need_word : List Str := ["word"]
def d_need_word : Df := ⟨1, 1, (.cons (.ife (.or (.not (.call 0 (.cons (.var 0) .nil))) (.cmp .gt (.bi .len (.cons (.var 0) .nil)) (.cst (.int 200)))) (.cons (.rais 1) .nil) .nil) .nil)⟩
def n_gone_on : List Str := ["place", "letter"]
def d_gone_on : Df := ⟨2, 2, (.cons (.ret (.ife (.cmp .eq (.slF (.var 0) (.neg (.cst (.int 1)))) (.getTab 0 (.var 1))) (.slT (.var 0) (.neg (.cst (.int 1)))) (.bin .add (.var 0) (.var 1)))) .nil)⟩
def n_place_key : List Str := ["place"]
def d_place_key : Df := ⟨1, 1, (.cons (.ret (.tup (.cons (.bi .len (.cons (.var 0) .nil)) (.cons (.var 0) .nil)))) .nil)⟩
def n_tread_by : List Str := ["places", "end"]
def d_tread_by : Df := ⟨2, 2, (.cons (.ret (.tup (.cons (.bi .tuple (.cons (.sortk (.var 0)) .nil)) (.cons (.var 1) .nil)))) .nil)⟩
def n_raw_tread : List Str := ["word", "place", "found", "letter"]
def d_raw_tread : Df := ⟨4, 1, (.cons (.par [1] (.cons (.cst (.str [])) .nil) 2 .dct0) (.cons (.seti 2 (.cst (.str [])) (.cst (.bl true))) (.cons (.for_ (.nm 3) (.it (.var 0)) (.cons (.asg 1 (.call 2 (.cons (.var 1) (.cons (.var 3) .nil)))) (.cons (.seti 2 (.var 1) (.cst (.bl true))) .nil))) (.cons (.ret (.call 4 (.cons (.var 2) (.cons (.var 1) .nil)))) .nil))))⟩
def n_tread_of : List Str := ["word"]
def d_tread_of : Df := ⟨1, 1, (.cons (.expr (.call 1 (.cons (.var 0) .nil))) (.cons (.ret (.call 5 (.cons (.var 0) .nil))) .nil))⟩
def n__law_spread : List Str := ["cell", "at", "primes", "one", "two", "three"]
def d__law_spread : Df := ⟨6, 2, (.cons (.ife (.cmp .ge (.var 0) (.bin .pow (.cst (.int 10)) (.cst (.int 18)))) (.cons (.ret (.var 0)) .nil) .nil) (.cons (.asg 2 (.lst (.cons (.cst (.int 2147483629)) (.cons (.cst (.int 2147483587)) (.cons (.cst (.int 2147483579)) (.cons (.cst (.int 2147483563)) (.cons (.cst (.int 2147483549)) (.cons (.cst (.int 2147483543)) (.cons (.cst (.int 2147483497)) (.cons (.cst (.int 2147483489)) .nil)))))))))) (.cons (.asg 2 (.bin .add (.var 2) (.lst (.cons (.cst (.int 2147483477)) (.cons (.cst (.int 2147483423)) (.cons (.cst (.int 2147483399)) (.cons (.cst (.int 2147483353)) (.cons (.cst (.int 2147483323)) .nil)))))))) (.cons (.asg 3 (.bin .mul (.bin .mod (.bi .int (.cons (.var 0) .nil)) (.cst (.int 1000000007))) (.bin .add (.bin .mul (.cst (.int 2)) (.var 1)) (.cst (.int 69069))))) (.cons (.asg 3 (.bin .mod (.bi .int (.cons (.bin .pow (.bin .add (.bin .add (.var 3) (.bin .mul (.var 1) (.cst (.int 40503)))) (.cst (.int 977))) (.cst (.int 3))) .nil)) (.ix (.var 2) (.bin .mod (.bi .int (.cons (.var 1) .nil)) (.cst (.int 13)))))) (.cons (.asg 4 (.bin .mod (.bi .int (.cons (.bin .pow (.bin .add (.bin .add (.bin .mul (.var 3) (.bin .add (.var 1) (.cst (.int 3)))) (.bin .mod (.bi .int (.cons (.var 0) .nil)) (.cst (.int 65537)))) (.cst (.int 5))) (.cst (.int 5))) .nil)) (.ix (.var 2) (.bin .mod (.bi .int (.cons (.bin .add (.var 1) (.cst (.int 5))) .nil)) (.cst (.int 13)))))) (.cons (.asg 5 (.bin .mod (.bi .int (.cons (.bin .pow (.bin .add (.bin .add (.var 4) (.bin .mod (.bi .int (.cons (.var 3) .nil)) (.cst (.int 1009)))) (.var 1)) (.cst (.int 3))) .nil)) (.ix (.var 2) (.bin .mod (.bi .int (.cons (.bin .add (.var 1) (.cst (.int 7))) .nil)) (.cst (.int 13)))))) (.cons (.ret (.bin .add (.bin .mul (.bin .add (.bin .mul (.var 3) (.cst (.int 2147483647))) (.var 4)) (.cst (.int 2147483647))) (.var 5))) .nil))))))))⟩
def n__law_open : List Str := ["script", "cells", "nth", "cell"]
def d__law_open : Df := ⟨4, 1, (.cons .bad (.cons .bad (.cons .bad .nil)))⟩
def n__law_take : List Str := ["pen", "many", "at", "cell", "found"]
def d__law_take : Df := ⟨5, 2, (.cons .bad (.cons .bad (.cons .bad (.cons .bad .nil))))⟩
def n__law_z_pick : List Str := ["pen", "some"]
def d__law_z_pick : Df := ⟨2, 2, (.cons (.ret (.ix (.var 1) (.call 9 (.cons (.var 0) (.cons (.bi .len (.cons (.var 1) .nil)) .nil))))) .nil)⟩
def n__law_z_kinds : List Str := ["one", "found"]
def d__law_z_kinds : Df := ⟨2, 1, (.cons (.asg 1 (.lst (.cons (.isX (.own 1) [1] (.var 0)) (.cons (.isX (.own 2) [2] (.var 0)) (.cons (.isX (.own 3) [3] (.var 0)) (.cons (.isX (.own 4) [4] (.var 0)) .nil)))))) (.cons (.asg 1 (.cat (.var 1) (.lst (.cons (.isX (.own 5) [5] (.var 0)) (.cons (.isX (.own 6) [6] (.var 0)) (.cons (.isX (.own 7) [7] (.var 0)) .nil)))))) (.cons (.asg 1 (.cat (.var 1) (.lst (.cons (.isX (.own 8) [8] (.var 0)) (.cons (.isX (.own 9) [9] (.var 0)) (.cons (.isX (.own 10) [10] (.var 0)) .nil)))))) (.cons (.ret (.cat (.var 1) (.lst (.cons (.isX (.own 11) [11] (.var 0)) (.cons (.isX (.own 12) [12] (.var 0)) (.cons (.isX (.own 13) [13] (.var 0)) .nil)))))) .nil))))⟩
def n_law : List Str := ["script", "pen", "turn", "text", "errors", "caught", "e", "j", "base", "k", "one"]
def d_law : Df := ⟨11, 1, (.cons .bad (.cons (.for_ (.nm 2) (.rng1 (.cst (.int 2))) (.cons (.asg 3 (.call 10 (.cons (.var 1) (.cons (.lst (.cons (.cst (.str [])) (.cons (.cst (.str [97])) (.cons (.cst (.str [110, 111, 32, 119, 111, 114, 100])) (.cons (.bin .mul (.cst (.str [120])) (.call 9 (.cons (.var 1) (.cons (.cst (.int 99)) .nil)))) .nil))))) .nil)))) (.cons (.asg 4 (.lst (.cons (.mkx 1 (.var 3)) (.cons (.mkx 2 (.var 3)) (.cons (.mkx 3 (.var 3)) (.cons (.mkx 4 (.var 3)) (.cons (.mkx 5 (.var 3)) (.cons (.mkx 6 (.var 3)) .nil)))))))) (.cons (.asg 4 (.cat (.var 4) (.lst (.cons (.mkx 7 (.var 3)) (.cons (.mkx 8 (.var 3)) (.cons (.mkx 9 (.var 3)) (.cons (.mkx 10 (.var 3)) (.cons (.mkx 11 (.var 3)) .nil)))))))) (.cons (.asg 4 (.cat (.var 4) (.lst (.cons (.mkx 12 (.var 3)) (.cons (.mkx 13 (.var 3)) .nil))))) (.cons (.asg 5 (.cst .non)) (.cons (.tryX 14 (.call 6 (.cons (.call 10 (.cons (.var 1) (.cons (.lst (.cons (.cst (.str [101])) (.cons (.cst .non) (.cons (.bin .mul (.cst (.str [97])) (.cst (.int 201))) (.cons (.cst (.str [97, 32, 98])) (.cons (.cst (.int 0)) .nil)))))) .nil))) .nil)) [0, 1, 2, 3, 4, 5, 6, 7, 8, 9, 10, 11, 12, 13] 5 6) (.cons (.ife (.or (.isN false (.var 5)) (.cmp .ne (.call 11 (.cons (.var 5) .nil)) (.lc (.rng1 (.cst (.int 13))) (.nm 7) (.cmp .eq (.var 7) (.cst (.int 0)))))) (.cons (.ret (.cst (.bl false))) .nil) .nil) (.cons (.asg 8 (.mkx 0 (.var 3))) (.cons (.ife (.or (.cmp .ne (.call 11 (.cons (.var 8) .nil)) (.bin .mul (.lst (.cons (.cst (.bl false)) .nil)) (.cst (.int 13)))) (.not (.isX (.val) [0, 1, 2, 3, 4, 5, 6, 7, 8, 9, 10, 11, 12, 13] (.var 8)))) (.cons (.ret (.cst (.bl false))) .nil) .nil) (.cons (.for_ (.tp [9, 10]) (.enum (.var 4)) (.cons (.ife (.cmp .ne (.call 11 (.cons (.var 10) .nil)) (.lc (.rng1 (.cst (.int 13))) (.nm 7) (.cmp .eq (.var 7) (.var 9)))) (.cons (.ret (.cst (.bl false))) .nil) .nil) (.cons (.ife (.or (.not (.isX (.own 0) [0, 1, 2, 3, 4, 5, 6, 7, 8, 9, 10, 11, 12, 13] (.var 10))) (.not (.isX (.val) [0, 1, 2, 3, 4, 5, 6, 7, 8, 9, 10, 11, 12, 13] (.var 10)))) (.cons (.ret (.cst (.bl false))) .nil) .nil) (.cons (.ife (.or (.isX (.look) [] (.var 10)) (.or (.isX (.arit) [] (.var 10)) (.isX (.typ) [] (.var 10)))) (.cons (.ret (.cst (.bl false))) .nil) .nil) .nil)))) .nil))))))))))) (.cons (.ret (.cst (.bl true))) .nil)))⟩
def dfs : List Df := [d_is_word, d_need_word, d_gone_on, d_place_key, d_tread_by, d_raw_tread, d_tread_of, d__law_spread, d__law_open, d__law_take, d__law_z_pick, d__law_z_kinds, d_law]
def Ns : List (List Str) := [n_is_word, n_need_word, n_gone_on, n_place_key, n_tread_by, n_raw_tread, n_tread_of, n__law_spread, n__law_open, n__law_take, n__law_z_pick, n__law_z_kinds, n_law]
def tops : List Nat := [18, 19, 20, 21, 23, 24, 25, 27, 28, 29, 30, 31, 32]
def cfg : Cfg where
  key := true
  N := []
  defs := [(("is_word" : Str), 1), (("need_word" : Str), 1), (("gone_on" : Str), 2), (("place_key" : Str), 1), (("tread_by" : Str), 2), (("raw_tread" : Str), 1), (("tread_of" : Str), 1), (("_law_spread" : Str), 2), (("_law_open" : Str), 1), (("_law_take" : Str), 2), (("_law_z_pick" : Str), 2), (("_law_z_kinds" : Str), 1), (("law" : Str), 1)]
  tabs := [(("BACKS" : Str), [([65], [97]), ([66], [98]), ([67], [99]), ([68], [100]), ([97], [65]), ([98], [66]), ([99], [67]), ([100], [68])])]
  cons := [(("MOST_LETTERS" : Str), (.int 200))]
  free := ["ArithmeticError", "LookupError", "TypeError", "ValueError", "all", "enumerate", "int", "isinstance", "len", "list", "range", "sorted", "str", "tuple"]
  excs := ["TreadError", "NoWord", "NoPlace", "NoTread", "NoPower", "NoNumber", "NoMakers", "NoWalk", "NoAnswers", "NoWishes", "NoUndo", "NoThings", "NoMatch", "TooGreat"]
  kws := []
  pl := []
  tf := []
  isx := [(.own 13, [13]), (.own 12, [12]), (.own 11, [11]), (.own 10, [10]), (.own 9, [9]), (.own 8, [8]), (.own 7, [7]), (.own 6, [6]), (.own 5, [5]), (.own 4, [4]), (.own 3, [3]), (.own 2, [2]), (.own 1, [1]), (.typ, []), (.arit, []), (.look, []), (.val, [0, 1, 2, 3, 4, 5, 6, 7, 8, 9, 10, 11, 12, 13]), (.own 0, [0, 1, 2, 3, 4, 5, 6, 7, 8, 9, 10, 11, 12, 13])]
  exm := [(0, [0, 1, 2, 3, 4, 5, 6, 7, 8, 9, 10, 11, 12, 13])]
  lams := []
abbrev PEN : Nat := 9
abbrev OPEN : Nat := 8
abbrev LAW : Nat := 12
abbrev SPR : Nat := 7
def lawC : Cs := (.cons (.for_ (.nm 2) (.rng1 (.cst (.int 2))) (.cons (.asg 3 (.call 10 (.cons (.var 1) (.cons (.lst (.cons (.cst (.str [])) (.cons (.cst (.str [97])) (.cons (.cst (.str [110, 111, 32, 119, 111, 114, 100])) (.cons (.bin .mul (.cst (.str [120])) (.call 9 (.cons (.var 1) (.cons (.cst (.int 99)) .nil)))) .nil))))) .nil)))) (.cons (.asg 4 (.lst (.cons (.mkx 1 (.var 3)) (.cons (.mkx 2 (.var 3)) (.cons (.mkx 3 (.var 3)) (.cons (.mkx 4 (.var 3)) (.cons (.mkx 5 (.var 3)) (.cons (.mkx 6 (.var 3)) .nil)))))))) (.cons (.asg 4 (.cat (.var 4) (.lst (.cons (.mkx 7 (.var 3)) (.cons (.mkx 8 (.var 3)) (.cons (.mkx 9 (.var 3)) (.cons (.mkx 10 (.var 3)) (.cons (.mkx 11 (.var 3)) .nil)))))))) (.cons (.asg 4 (.cat (.var 4) (.lst (.cons (.mkx 12 (.var 3)) (.cons (.mkx 13 (.var 3)) .nil))))) (.cons (.asg 5 (.cst .non)) (.cons (.tryX 14 (.call 6 (.cons (.call 10 (.cons (.var 1) (.cons (.lst (.cons (.cst (.str [101])) (.cons (.cst .non) (.cons (.bin .mul (.cst (.str [97])) (.cst (.int 201))) (.cons (.cst (.str [97, 32, 98])) (.cons (.cst (.int 0)) .nil)))))) .nil))) .nil)) [0, 1, 2, 3, 4, 5, 6, 7, 8, 9, 10, 11, 12, 13] 5 6) (.cons (.ife (.or (.isN false (.var 5)) (.cmp .ne (.call 11 (.cons (.var 5) .nil)) (.lc (.rng1 (.cst (.int 13))) (.nm 7) (.cmp .eq (.var 7) (.cst (.int 0)))))) (.cons (.ret (.cst (.bl false))) .nil) .nil) (.cons (.asg 8 (.mkx 0 (.var 3))) (.cons (.ife (.or (.cmp .ne (.call 11 (.cons (.var 8) .nil)) (.bin .mul (.lst (.cons (.cst (.bl false)) .nil)) (.cst (.int 13)))) (.not (.isX (.val) [0, 1, 2, 3, 4, 5, 6, 7, 8, 9, 10, 11, 12, 13] (.var 8)))) (.cons (.ret (.cst (.bl false))) .nil) .nil) (.cons (.for_ (.tp [9, 10]) (.enum (.var 4)) (.cons (.ife (.cmp .ne (.call 11 (.cons (.var 10) .nil)) (.lc (.rng1 (.cst (.int 13))) (.nm 7) (.cmp .eq (.var 7) (.var 9)))) (.cons (.ret (.cst (.bl false))) .nil) .nil) (.cons (.ife (.or (.not (.isX (.own 0) [0, 1, 2, 3, 4, 5, 6, 7, 8, 9, 10, 11, 12, 13] (.var 10))) (.not (.isX (.val) [0, 1, 2, 3, 4, 5, 6, 7, 8, 9, 10, 11, 12, 13] (.var 10)))) (.cons (.ret (.cst (.bl false))) .nil) .nil) (.cons (.ife (.or (.isX (.look) [] (.var 10)) (.or (.isX (.arit) [] (.var 10)) (.isX (.typ) [] (.var 10)))) (.cons (.ret (.cst (.bl false))) .nil) .nil) .nil)))) .nil))))))))))) (.cons (.ret (.cst (.bl true))) .nil))
def R : Mi.Row where
  body := PySem.Challenge.pw_solvedtreads_k44_errors_by_hand.main.body
  tops := tops
  Ns := Ns
  dfs := dfs
  c := cfg
  pen := PEN
  opn := OPEN
  law := LAW
  spr := SPR
  key := 3
  lawC := lawC
  ho := []
  ex1 := []
def loose0 : List Str := ["TreadError", "NoWord", "NoPlace", "NoTread", "NoPower", "NoNumber", "NoMakers", "NoWalk", "NoAnswers", "NoWishes", "NoUndo", "NoThings", "NoMatch", "TooGreat", "BACKS", "MOST_LETTERS", "is_word", "need_word", "gone_on", "place_key", "tread_by", "raw_tread", "tread_of", "_law_spread", "_law_open", "_law_take", "_law_z_pick", "_law_z_kinds"]
def loose : List Str := loose0
theorem ok : R.ok = true := by decide +kernel
theorem okX : R.okX "script" = true := by decide +kernel
theorem b_is_word (kV doc pm : Value) (an : Option Addr) (cdv ct : Value) (us : List Value) (hl : us.length = 1) : bindArgs (PySem.W.fnOf "is_word" "is_word" (defArgs (R.st 0)) (defBody (R.st 0)) (defScope (R.st 0)) .none kV doc pm an cdv ct) ⟨us, []⟩ = pure (((R.N 0).take 1).zip us) := match us, hl with | [_], _ => rfl
theorem b_need_word (kV doc pm : Value) (an : Option Addr) (cdv ct : Value) (us : List Value) (hl : us.length = 1) : bindArgs (PySem.W.fnOf "need_word" "need_word" (defArgs (R.st 1)) (defBody (R.st 1)) (defScope (R.st 1)) .none kV doc pm an cdv ct) ⟨us, []⟩ = pure (((R.N 1).take 1).zip us) := match us, hl with | [_], _ => rfl
theorem b_gone_on (kV doc pm : Value) (an : Option Addr) (cdv ct : Value) (us : List Value) (hl : us.length = 2) : bindArgs (PySem.W.fnOf "gone_on" "gone_on" (defArgs (R.st 2)) (defBody (R.st 2)) (defScope (R.st 2)) .none kV doc pm an cdv ct) ⟨us, []⟩ = pure (((R.N 2).take 2).zip us) := match us, hl with | [_, _], _ => rfl
theorem b_place_key (kV doc pm : Value) (an : Option Addr) (cdv ct : Value) (us : List Value) (hl : us.length = 1) : bindArgs (PySem.W.fnOf "place_key" "place_key" (defArgs (R.st 3)) (defBody (R.st 3)) (defScope (R.st 3)) .none kV doc pm an cdv ct) ⟨us, []⟩ = pure (((R.N 3).take 1).zip us) := match us, hl with | [_], _ => rfl
theorem b_tread_by (kV doc pm : Value) (an : Option Addr) (cdv ct : Value) (us : List Value) (hl : us.length = 2) : bindArgs (PySem.W.fnOf "tread_by" "tread_by" (defArgs (R.st 4)) (defBody (R.st 4)) (defScope (R.st 4)) .none kV doc pm an cdv ct) ⟨us, []⟩ = pure (((R.N 4).take 2).zip us) := match us, hl with | [_, _], _ => rfl
theorem b_raw_tread (kV doc pm : Value) (an : Option Addr) (cdv ct : Value) (us : List Value) (hl : us.length = 1) : bindArgs (PySem.W.fnOf "raw_tread" "raw_tread" (defArgs (R.st 5)) (defBody (R.st 5)) (defScope (R.st 5)) .none kV doc pm an cdv ct) ⟨us, []⟩ = pure (((R.N 5).take 1).zip us) := match us, hl with | [_], _ => rfl
theorem b_tread_of (kV doc pm : Value) (an : Option Addr) (cdv ct : Value) (us : List Value) (hl : us.length = 1) : bindArgs (PySem.W.fnOf "tread_of" "tread_of" (defArgs (R.st 6)) (defBody (R.st 6)) (defScope (R.st 6)) .none kV doc pm an cdv ct) ⟨us, []⟩ = pure (((R.N 6).take 1).zip us) := match us, hl with | [_], _ => rfl
theorem b__law_spread (kV doc pm : Value) (an : Option Addr) (cdv ct : Value) (us : List Value) (hl : us.length = 2) : bindArgs (PySem.W.fnOf "_law_spread" "_law_spread" (defArgs (R.st 7)) (defBody (R.st 7)) (defScope (R.st 7)) .none kV doc pm an cdv ct) ⟨us, []⟩ = pure (((R.N 7).take 2).zip us) := match us, hl with | [_, _], _ => rfl
theorem b__law_open (kV doc pm : Value) (an : Option Addr) (cdv ct : Value) (us : List Value) (hl : us.length = 1) : bindArgs (PySem.W.fnOf "_law_open" "_law_open" (defArgs (R.st 8)) (defBody (R.st 8)) (defScope (R.st 8)) .none kV doc pm an cdv ct) ⟨us, []⟩ = pure (((R.N 8).take 1).zip us) := match us, hl with | [_], _ => rfl
theorem b__law_take (kV doc pm : Value) (an : Option Addr) (cdv ct : Value) (us : List Value) (hl : us.length = 2) : bindArgs (PySem.W.fnOf "_law_take" "_law_take" (defArgs (R.st 9)) (defBody (R.st 9)) (defScope (R.st 9)) .none kV doc pm an cdv ct) ⟨us, []⟩ = pure (((R.N 9).take 2).zip us) := match us, hl with | [_, _], _ => rfl
theorem b__law_z_pick (kV doc pm : Value) (an : Option Addr) (cdv ct : Value) (us : List Value) (hl : us.length = 2) : bindArgs (PySem.W.fnOf "_law_z_pick" "_law_z_pick" (defArgs (R.st 10)) (defBody (R.st 10)) (defScope (R.st 10)) .none kV doc pm an cdv ct) ⟨us, []⟩ = pure (((R.N 10).take 2).zip us) := match us, hl with | [_, _], _ => rfl
theorem b__law_z_kinds (kV doc pm : Value) (an : Option Addr) (cdv ct : Value) (us : List Value) (hl : us.length = 1) : bindArgs (PySem.W.fnOf "_law_z_kinds" "_law_z_kinds" (defArgs (R.st 11)) (defBody (R.st 11)) (defScope (R.st 11)) .none kV doc pm an cdv ct) ⟨us, []⟩ = pure (((R.N 11).take 1).zip us) := match us, hl with | [_], _ => rfl
theorem b_law (kV doc pm : Value) (an : Option Addr) (cdv ct : Value) (us : List Value) (hl : us.length = 1) : bindArgs (PySem.W.fnOf "law" "law" (defArgs (R.st 12)) (defBody (R.st 12)) (defScope (R.st 12)) .none kV doc pm an cdv ct) ⟨us, []⟩ = pure (((R.N 12).take 1).zip us) := match us, hl with | [_], _ => rfl
theorem bindsHo : R.BindHo R.ho := trivial
theorem binds : Mi.Row.BindFrom R 0 R.c.defs := ⟨b_is_word, b_need_word, b_gone_on, b_place_key, b_tread_by, b_raw_tread, b_tread_of, b__law_spread, b__law_open, b__law_take, b__law_z_pick, b__law_z_kinds, b_law, trivial⟩
theorem kwAll : ∀ e, e ∈ R.c.kws → Mi.KwOk R e := fun e h => nomatch h
abbrev RR : PySem.W.OpenRow := PySem.W.OpenLaw.row PySem.Challenge.rw_solvedtreads_k44_errors_by_hand
abbrev hk : PySem.W.Hook := He.hookX 4 R.fa R.fn R.ts R.tf R.exB
def ob (s : PySem.W.SharedT) : He.AlX := He.obsX 4 R.fa R.fn R.ts R.tf R.exB (HandSHeadRun.getT s)
theorem ob_eq (s : PySem.W.SharedT) : ob s = hk.obs s.abs := He.obsX_eq (HandSHeadRun.getT_eq s)
abbrev LAWTOP : Nat := 32
end K44
end
section
set_option linter.all false
/-! Words of letters, free reduction on a stack (the word's end first). -/
namespace Mi
def isL (c : Nat) : Bool := (decide (65 ≤ c) && decide (c ≤ 68)) || (decide (97 ≤ c) && decide (c ≤ 100))
def inv (c : Nat) : Nat := if c ≤ 68 then c + 32 else c - 32
theorem isL_iff {c : Nat} : isL c = true ↔ (65 ≤ c ∧ c ≤ 68) ∨ (97 ≤ c ∧ c ≤ 100) := by simp [isL]
theorem inv_inv {c : Nat} (h : isL c = true) : inv (inv c) = c := by
  rw [isL_iff] at h
  unfold inv
  split <;> split <;> omega
theorem isL_inv {c : Nat} (h : isL c = true) : isL (inv c) = true := by
  rw [isL_iff] at h ⊢
  unfold inv
  split <;> omega
theorem inv_ne {c : Nat} (h : isL c = true) : inv c ≠ c := by
  rw [isL_iff] at h
  unfold inv
  split <;> omega
/-- one letter on -/
def push (s : S) (c : Nat) : S := match s with
  | d :: r => if d = inv c then r else c :: d :: r
  | [] => [c]
/-- no letter beside its back -/
def redB : S → Bool
  | c :: d :: r => decide (d ≠ inv c) && redB (d :: r)
  | _ => true
def letB (s : S) : Bool := s.all isL
theorem red_tail {c : Nat} {s : S} (h : redB (c :: s) = true) : redB s = true := by
  cases s with
  | nil => rfl
  | cons d r => exact (Bool.and_eq_true_iff.mp h).2
theorem push_red {s : S} {c : Nat} (h : redB s = true) : redB (push s c) = true := by
  cases s with
  | nil => rfl
  | cons d r =>
    unfold push
    dsimp only
    split
    · exact red_tail h
    · rename_i hd
      show (decide (d ≠ inv c) && redB (d :: r)) = true
      rw [h, decide_eq_true hd]
      rfl
theorem push_let {s : S} {c : Nat} (h : letB s = true) (hc : isL c = true) : letB (push s c) = true := by
  cases s with
  | nil => simp [push, letB, hc]
  | cons d r =>
    simp only [letB, List.all_cons, Bool.and_eq_true] at h
    unfold push
    dsimp only
    split
    · exact h.2
    · simp only [letB, List.all_cons, Bool.and_eq_true]
      exact ⟨hc, h.1, h.2⟩
theorem push_push {s : S} {c : Nat} (h : redB s = true) (hc : isL c = true) : push (push s c) (inv c) = s := by
  cases s with
  | nil => simp [push, inv_inv hc]
  | cons d r =>
    by_cases hd : d = inv c
    · have e : push (d :: r) c = r := if_pos hd
      rw [e]
      cases r with
      | nil => rw [hd]; rfl
      | cons x t =>
        have hx : x ≠ inv d := of_decide_eq_true (Bool.and_eq_true_iff.mp h).1
        rw [hd] at hx ⊢
        exact if_neg hx
    · have e : push (d :: r) c = c :: d :: r := if_neg hd
      rw [e]
      exact if_pos (inv_inv hc).symm
/-- letters on, one after the other -/
def pushs (s : S) (w : S) : S := w.foldl push s
theorem pushs_append {s w v : S} : pushs s (w ++ v) = pushs (pushs s w) v := List.foldl_append
theorem pushs_red {w : S} : ∀ {s : S}, redB s = true → redB (pushs s w) = true := by
  induction w with
  | nil => exact fun h => h
  | cons c w ih => exact fun h => ih (push_red h)
theorem pushs_let {w : S} (hw : letB w = true) : ∀ {s : S}, letB s = true → letB (pushs s w) = true := by
  induction w with
  | nil => exact fun h => h
  | cons c w ih =>
    simp only [letB, List.all_cons, Bool.and_eq_true] at hw
    exact fun h => ih hw.2 (push_let h hw.1)
/-- the word back -/
def bk (w : S) : S := w.reverse.map inv
theorem bk_append {w v : S} : bk (w ++ v) = bk v ++ bk w := by simp [bk]
theorem bk_let {w : S} (h : letB w = true) : letB (bk w) = true := by
  simp only [letB, bk, List.all_eq_true, List.mem_map, List.mem_reverse] at h ⊢
  rintro x ⟨y, hy, rfl⟩
  exact isL_inv (h y hy)
theorem bk_bk {w : S} (h : letB w = true) : bk (bk w) = w := by
  induction w with
  | nil => rfl
  | cons c w ih =>
    simp only [letB, List.all_cons, Bool.and_eq_true] at h
    have e : bk (c :: w) = bk w ++ [inv c] := by simp [bk]
    rw [e, bk_append, ih h.2]
    simp [bk, inv_inv h.1]
theorem pushs_bk {w : S} (hw : letB w = true) : ∀ {s : S}, redB s = true → pushs (pushs s w) (bk w) = s := by
  induction w with
  | nil => exact fun _ => rfl
  | cons c w ih =>
    simp only [letB, List.all_cons, Bool.and_eq_true] at hw
    intro s h
    have e : bk (c :: w) = bk w ++ [inv c] := by simp [bk]
    rw [e, pushs_append]
    show push (pushs (pushs (push s c) w) (bk w)) (inv c) = s
    rw [ih hw.2 (push_red h), push_push h hw.1]
/-- a word reduced, as a word -/
def red (w : S) : S := (pushs [] w).reverse
/-- to go a reduced word is to go the word: a letter put on the word's end -/
theorem pushs_push {r : S} {c : Nat} {s : S} (hs : redB s = true) (hr : letB r = true) (hc : isL c = true) : pushs s (push r c).reverse = push (pushs s r.reverse) c := by
  cases r with
  | nil => rfl
  | cons d r =>
    simp only [letB, List.all_cons, Bool.and_eq_true] at hr
    by_cases hd : d = inv c
    · have e : push (d :: r) c = r := if_pos hd
      rw [e, List.reverse_cons, pushs_append]
      show _ = push (push (pushs s r.reverse) d) c
      have h2 := push_push (s := pushs s r.reverse) (c := d) (pushs_red hs) hr.1
      rw [hd, inv_inv hc] at h2
      rw [hd, h2]
    · have e : push (d :: r) c = c :: d :: r := if_neg hd
      rw [e, List.reverse_cons, pushs_append]
      rfl
theorem pushs_red_word {w : S} (hw : letB w = true) {s : S} (hs : redB s = true) : ∀ {r : S}, letB r = true → pushs s (pushs r w).reverse = pushs (pushs s r.reverse) w := by
  induction w with
  | nil => exact fun _ => rfl
  | cons c w ih =>
    simp only [letB, List.all_cons, Bool.and_eq_true] at hw
    intro r hr
    show pushs s (pushs (push r c) w).reverse = pushs (push (pushs s r.reverse) c) w
    rw [ih hw.2 (push_let hr hw.1), pushs_push hs hr hw.1]
/-- a reduced word reduces to itself -/
theorem pushs_self : ∀ {s : S}, redB s = true → pushs [] s.reverse = s
  | [], _ => rfl
  | c :: s, h => by
    rw [List.reverse_cons, pushs_append, pushs_self (red_tail h)]
    cases s with
    | nil => rfl
    | cons d r =>
      have hd : d ≠ inv c := of_decide_eq_true (Bool.and_eq_true_iff.mp h).1
      exact if_neg hd
theorem push_len {s : S} {c : Nat} : (push s c).length ≤ s.length + 1 := by
  cases s with
  | nil => simp [push]
  | cons d r =>
    unfold push
    dsimp only
    split <;> simp <;> omega
theorem pushs_len {w : S} : ∀ {s : S}, (pushs s w).length ≤ s.length + w.length := by
  induction w with
  | nil => exact fun {s} => Nat.le_refl _
  | cons c w ih =>
    intro s
    have h1 := ih (s := push s c)
    have h2 := push_len (s := s) (c := c)
    show (pushs (push s c) w).length ≤ _
    rw [List.length_cons]
    omega
end Mi
end
section
set_option linter.all false
/-! Reduced words in their order: a group. -/
namespace Mi
def isP (p : S) : Prop := letB p = true ∧ redB p.reverse = true
instance (p : S) : Decidable (isP p) := inferInstanceAs (Decidable (_ ∧ _))
def mul (p w : S) : S := (pushs p.reverse w).reverse
def rd (w : S) : S := mul [] w
theorem letB_rev {p : S} : letB p.reverse = letB p := by simp [letB]
theorem letB_app {p q : S} : letB (p ++ q) = (letB p && letB q) := by simp [letB]
theorem isP_nil : isP [] := ⟨rfl, rfl⟩
theorem mul_nil {p : S} : mul p [] = p := by simp [mul, pushs]
theorem nil_mul {p : S} (h : isP p) : mul [] p = p := by
  have := pushs_self h.2
  rw [List.reverse_reverse] at this
  simp [mul, this]
theorem isP_mul {p w : S} (h : isP p) (hw : letB w = true) : isP (mul p w) := by
  refine ⟨?_, ?_⟩
  · rw [mul, letB_rev]
    exact pushs_let hw (by rw [letB_rev]; exact h.1)
  · rw [mul, List.reverse_reverse]
    exact pushs_red h.2
theorem mul_assoc {p q w : S} (hp : redB p.reverse = true) (hq : letB q = true) (hw : letB w = true) : mul (mul p q) w = mul p (mul q w) := by
  have h := pushs_red_word hw hp (r := q.reverse) (by rw [letB_rev]; exact hq)
  rw [List.reverse_reverse] at h
  unfold mul
  rw [h, List.reverse_reverse]
theorem mul_app {p u v : S} : mul p (u ++ v) = mul (mul p u) v := by
  unfold mul
  rw [pushs_append, List.reverse_reverse]
theorem mul_bk {p w : S} (h : isP p) (hw : letB w = true) : mul (mul p w) (bk w) = p := by
  unfold mul
  rw [List.reverse_reverse, pushs_bk hw h.2, List.reverse_reverse]
theorem redB_snoc : ∀ {s : S} {x : Nat}, redB (s ++ [x]) = true ↔ redB s = true ∧ ∀ y, s.getLast? = some y → x ≠ inv y
  | [], x => by simp [redB]
  | [c], x => by simp [redB]
  | c :: d :: r, x => by
    have ih := redB_snoc (s := d :: r) (x := x)
    rw [List.cons_append, List.cons_append]
    show (decide (d ≠ inv c) && redB (d :: r ++ [x])) = true ↔ (decide (d ≠ inv c) && redB (d :: r)) = true ∧ _
    rw [Bool.and_eq_true, Bool.and_eq_true, ih, List.getLast?_cons_cons, and_assoc]
theorem redB_revmap : ∀ {s : S}, letB s = true → redB s = true → redB (s.reverse.map inv) = true
  | [], _, _ => rfl
  | [c], _, _ => rfl
  | c :: d :: r, hl, h => by
    have hl' : letB (d :: r) = true := by
      simp only [letB, List.all_cons, Bool.and_eq_true] at hl ⊢
      exact hl.2
    have hd : isL d = true := by
      simp only [letB, List.all_cons, Bool.and_eq_true] at hl
      exact hl.2.1
    have h2 : d ≠ inv c := of_decide_eq_true (Bool.and_eq_true_iff.mp h).1
    have ih := redB_revmap hl' (red_tail h)
    rw [List.reverse_cons, List.map_append]
    refine redB_snoc.mpr ⟨ih, ?_⟩
    intro y hy
    rw [List.reverse_cons, List.map_append] at hy
    simp at hy
    rw [← hy, inv_inv hd]
    exact fun e => h2 e.symm
theorem isP_bk {p : S} (h : isP p) : isP (bk p) := by
  refine ⟨bk_let h.1, ?_⟩
  have e : (bk p).reverse = (p.reverse.reverse.map inv) := by simp [bk]
  rw [e]
  exact redB_revmap (by rw [letB_rev]; exact h.1) h.2
theorem mul_bk_self {p : S} (h : isP p) : mul p (bk p) = [] := by
  have := mul_bk isP_nil h.1
  rwa [nil_mul h] at this
theorem bk_mul_self {p : S} (h : isP p) : mul (bk p) p = [] := by
  have := mul_bk_self (isP_bk h)
  rwa [bk_bk h.1] at this
theorem bk_mul_mul {p q : S} (h : isP p) (hq : isP q) : mul (bk p) (mul p q) = q := by
  rw [← mul_assoc (isP_bk h).2 h.1 hq.1, bk_mul_self h, nil_mul hq]
theorem mul_bk_mul {p q : S} (h : isP p) (hq : isP q) : mul p (mul (bk p) q) = q := by
  rw [← mul_assoc h.2 (isP_bk h).1 hq.1, mul_bk_self h, nil_mul hq]
theorem isP_rd {w : S} (hw : letB w = true) : isP (rd w) := isP_mul isP_nil hw
theorem mul_rd {p w : S} (h : isP p) (hw : letB w = true) : mul p (rd w) = mul p w := by
  rw [rd, ← mul_assoc h.2 rfl hw, mul_nil]
theorem rd_self {p : S} (h : isP p) : rd p = p := nil_mul h
theorem rd_app {u v : S} : rd (u ++ v) = mul (rd u) v := mul_app
theorem bk_rd {w : S} (hw : letB w = true) : bk (rd w) = rd (bk w) := by
  have h1 : mul (rd w) (rd (bk w)) = [] := by
    rw [mul_rd (isP_rd hw) (bk_let hw)]
    exact mul_bk isP_nil hw
  have h2 := bk_mul_mul (isP_rd hw) (isP_rd (bk_let hw))
  rw [h1, mul_nil] at h2
  exact h2
theorem bk_mul {p q : S} (hp : isP p) (hq : isP q) : bk (mul p q) = mul (bk q) (bk p) := by
  have e : mul p q = rd (p ++ q) := by rw [rd_app, rd_self hp]
  rw [e, bk_rd (by rw [letB_app, hp.1, hq.1]; rfl), bk_append, rd_app, rd_self (isP_bk hq)]
theorem mul_len {p w : S} : (mul p w).length ≤ p.length + w.length := by
  have := pushs_len (w := w) (s := p.reverse)
  simpa [mul] using this
theorem bk_len {p : S} : (bk p).length = p.length := by simp [bk]
theorem bk_nil : bk [] = [] := rfl
theorem isP_take {p : S} (h : isP p) (n : Nat) : isP (p.take n) := by
  refine ⟨?_, ?_⟩
  · have := h.1
    simp only [letB, List.all_eq_true] at this ⊢
    exact fun x hx => this x (List.mem_of_mem_take hx)
  · have h2 := h.2
    rw [← List.take_append_drop n p, List.reverse_append] at h2
    generalize (p.drop n).reverse = u at h2
    induction u with
    | nil => exact h2
    | cons c u ih => exact ih (red_tail h2)
/-- one letter on -/
def gop (p : S) (c : Nat) : S := if p.drop (p.length - 1) = [inv c] then p.dropLast else p ++ [c]
theorem gop_eq {p : S} {c : Nat} : mul p [c] = gop p c := by
  rcases List.eq_nil_or_concat p with h | ⟨q, d, h⟩
  · subst h
    simp [mul, pushs, push, gop]
  · subst h
    unfold gop mul pushs push
    simp
    split <;> simp
theorem mul_snoc {p u : S} {c : Nat} : mul p (u ++ [c]) = gop (mul p u) c := by rw [mul_app, gop_eq]
theorem mul_cons {p u : S} {c : Nat} : mul p (c :: u) = mul (gop p c) u := by
  rw [← gop_eq, ← mul_app]
  rfl
theorem mul_foldl {w p : S} : mul p w = w.foldl gop p := by
  induction w generalizing p with
  | nil => exact mul_nil
  | cons c w ih => rw [mul_cons, ih]; rfl
/-! ### no turning back -/
theorem pushs_on {c : Nat} {s : S} : ∀ {t : S}, redB (t ++ [c]) = true → pushs (c :: s) t.reverse = t ++ c :: s
  | [], _ => rfl
  | d :: t, h => by
    rw [List.reverse_cons, pushs_append, pushs_on (red_tail h)]
    cases t with
    | nil =>
      have hd : c ≠ inv d := of_decide_eq_true (Bool.and_eq_true_iff.mp h).1
      exact if_neg hd
    | cons x t =>
      have hd : x ≠ inv d := of_decide_eq_true (Bool.and_eq_true_iff.mp h).1
      exact if_neg hd
theorem pushs_cut : ∀ (w s : S), redB w.reverse = true → ∃ u v t, w = u ++ v ∧ s = u.map inv ++ t ∧ pushs s w = v.reverse ++ t
  | [], s, _ => ⟨[], [], s, rfl, rfl, rfl⟩
  | c :: w, s, h => by
    rw [List.reverse_cons] at h
    have h2 := (redB_snoc.mp h).1
    have key : (∃ r, s = inv c :: r) ∨ push s c = c :: s := by
      cases s with
      | nil => exact .inr rfl
      | cons d r =>
        by_cases hd : d = inv c
        · exact .inl ⟨r, by rw [hd]⟩
        · exact .inr (if_neg hd)
    rcases key with ⟨r, rfl⟩ | hp
    · obtain ⟨u, v, t, e1, e2, e3⟩ := pushs_cut w r h2
      refine ⟨c :: u, v, t, by rw [e1]; rfl, by rw [e2]; rfl, ?_⟩
      rw [← e3]
      show pushs (push (inv c :: r) c) w = _
      rw [show push (inv c :: r) c = r from if_pos rfl]
    · refine ⟨[], c :: w, s, rfl, rfl, ?_⟩
      show pushs (push s c) w = _
      rw [hp]
      have := pushs_on (s := s) h
      rw [List.reverse_reverse] at this
      rw [this]
      simp
theorem red_at {s : S} (h : redB s = true) : ∀ (i : Nat) (h1 : i + 1 < s.length), s[i + 1] ≠ inv (s[i]) := by
  induction s with
  | nil => intro i h1; simp at h1
  | cons c s ih =>
    intro i h1
    cases i with
    | zero =>
      cases s with
      | nil => simp at h1
      | cons d r => exact of_decide_eq_true (Bool.and_eq_true_iff.mp h).1
    | succ i => exact ih (red_tail h) i (by simpa using h1)
/-- what is gone twice is longer -/
theorem sq_len {g : S} (h : isP g) (hg : g ≠ []) : g.length < (mul g g).length := by
  obtain ⟨u, v, t, e1, e2, e3⟩ := pushs_cut g g.reverse h.2
  have l1 : g.length = u.length + v.length := by rw [e1]; simp
  have l2 : g.length = u.length + t.length := by have := congrArg List.length e2; simpa using this
  have l3 : (mul g g).length = v.length + t.length := by rw [mul, e3]; simp; omega
  rw [l3]
  apply Classical.byContradiction
  intro hn
  have hu : g.length ≤ 2 * u.length := by omega
  have h0 : 0 < g.length := List.length_pos_iff.mpr hg
  have key : ∀ i (hi : i < u.length), g[g.length - 1 - i]'(by omega) = inv (g[i]'(by omega)) := by
    intro i hi
    have a1 : g[i]'(by omega) = u[i] := by
      simp only [e1]
      rw [List.getElem_append_left hi]
    have a2 : g.reverse[i]'(by simp; omega) = inv (u[i]) := by
      simp only [e2]
      rw [List.getElem_append_left (by simpa using hi), List.getElem_map]
    rw [List.getElem_reverse] at a2
    rw [a2, a1]
  rcases Nat.mod_two_eq_zero_or_one g.length with hm | hm
  · have hm1 : g.length = 2 * (g.length / 2) := by omega
    have k1 := key (g.length / 2 - 1) (by omega)
    have k2 := red_at h.2 (g.length / 2 - 1) (by simp; omega)
    rw [List.getElem_reverse, List.getElem_reverse] at k2
    apply k2
    have i1 : g.length - 1 - (g.length / 2 - 1 + 1) = g.length / 2 - 1 := by omega
    have i2 : g.length - 1 - (g.length / 2 - 1) = g.length / 2 := by omega
    simp only [i1]
    rw [k1, inv_inv]
    have hl := h.1
    simp only [letB, List.all_eq_true] at hl
    exact hl _ (List.getElem_mem _)
  · have k1 := key (g.length / 2) (by omega)
    have i1 : g.length - 1 - g.length / 2 = g.length / 2 := by omega
    simp only [i1] at k1
    have hl := h.1
    simp only [letB, List.all_eq_true] at hl
    exact inv_ne (hl _ (List.getElem_mem (l := g) (n := g.length / 2) (by omega))) k1.symm
end Mi
end
section
set_option linter.all false
/-! Treads: sets of places in order, and an end. -/
namespace Mi
open List
theorem leP_total (a b : S) : (leP a b || leP b a) = true := by
  unfold leP
  rcases Nat.lt_trichotomy a.length b.length with h | h | h
  · simp [h]
  · rcases List.le_total a b with h2 | h2
    · have : ¬ b < a := h2
      simp [h, this]
    · have : ¬ a < b := h2
      simp [h, this]
  · simp [h]
theorem leP_iff {a b : S} : leP a b = true ↔ a.length < b.length ∨ (a.length = b.length ∧ ¬ b < a) := by
  simp [leP]
theorem leP_trans (a b c : S) (h1 : leP a b = true) (h2 : leP b c = true) : leP a c = true := by
  rw [leP_iff] at h1 h2 ⊢
  rcases h1 with h1 | ⟨h1, g1⟩ <;> rcases h2 with h2 | ⟨h2, g2⟩
  · exact .inl (by omega)
  · exact .inl (by omega)
  · exact .inl (by omega)
  · exact .inr ⟨by omega, List.le_trans (l₁ := a) (l₂ := b) (l₃ := c) g1 g2⟩
theorem leP_anti (a b : S) (h1 : leP a b = true) (h2 : leP b a = true) : a = b := by
  rw [leP_iff] at h1 h2
  rcases h1 with h1 | ⟨h1, g1⟩ <;> rcases h2 with h2 | ⟨h2, g2⟩
  · omega
  · omega
  · omega
  · exact List.le_antisymm (as := a) (bs := b) g1 g2
theorem sortP_perm (l : List S) : sortP l ~ l := mergeSort_perm l leP
theorem sortP_pw (l : List S) : Pairwise (fun a b => leP a b = true) (sortP l) := pairwise_mergeSort leP_trans leP_total l
theorem sortP_idem (l : List S) : sortP (sortP l) = sortP l := mergeSort_of_pairwise (sortP_pw l)
theorem sortP_eq {l m : List S} (h : l ~ m) : sortP l = sortP m :=
  Perm.eq_of_pairwise (le := fun a b => leP a b = true) (fun a b _ _ => leP_anti a b) (sortP_pw l) (sortP_pw m) ((sortP_perm l).trans (h.trans (sortP_perm m).symm))
/-- a key put into a dict -/
def ins (l : List S) (k : S) : List S := if k ∈ l then l else l ++ [k]
theorem ins_nd {l : List S} {k : S} (h : l.Nodup) : (ins l k).Nodup := by
  unfold ins
  split
  · exact h
  · rename_i hk
    rw [nodup_append]
    refine ⟨h, by simp, ?_⟩
    intro a ha b hb e
    simp at hb
    exact hk (hb ▸ e ▸ ha)
theorem mem_ins {l : List S} {k x : S} : x ∈ ins l k ↔ x ∈ l ∨ x = k := by
  unfold ins
  split
  · rename_i hk
    constructor
    · exact .inl
    · rintro (h | rfl)
      · exact h
      · exact hk
  · simp
theorem ins_len {l : List S} {k : S} : (ins l k).length ≤ l.length + 1 := by
  unfold ins
  split <;> simp
def insAll (l ks : List S) : List S := ks.foldl ins l
theorem insAll_app {l a b : List S} : insAll l (a ++ b) = insAll (insAll l a) b := foldl_append
theorem insAll_nd {ks : List S} : ∀ {l : List S}, l.Nodup → (insAll l ks).Nodup := by
  induction ks with
  | nil => exact fun h => h
  | cons k ks ih => exact fun h => ih (ins_nd h)
theorem mem_insAll {ks : List S} {x : S} : ∀ {l : List S}, x ∈ insAll l ks ↔ x ∈ l ∨ x ∈ ks := by
  induction ks with
  | nil => intro l; simp [insAll]
  | cons k ks ih =>
    intro l
    show x ∈ insAll (ins l k) ks ↔ _
    rw [ih, mem_ins, mem_cons, or_assoc]
theorem insAll_len {ks : List S} : ∀ {l : List S}, (insAll l ks).length ≤ l.length + ks.length := by
  induction ks with
  | nil => exact fun {l} => Nat.le_refl _
  | cons k ks ih =>
    intro l
    have h1 := ih (l := ins l k)
    have h2 := ins_len (l := l) (k := k)
    show (insAll (ins l k) ks).length ≤ _
    rw [length_cons]
    omega
theorem insAll_self {ks : List S} : ∀ {l : List S}, (l ++ ks).Nodup → insAll l ks = l ++ ks := by
  induction ks with
  | nil => intro l h; simp [insAll]
  | cons k ks ih =>
    intro l h
    have hk : k ∉ l := by
      intro hk
      rw [nodup_append] at h
      exact h.2.2 k hk k (mem_cons_self) rfl
    show insAll (ins l k) ks = _
    have e : ins l k = l ++ [k] := if_neg hk
    rw [e, ih (by simpa using h)]
    simp
/-- the set of these places, in order -/
def su (l : List S) : List S := sortP (insAll [] l)
theorem mem_su {l : List S} {x : S} : x ∈ su l ↔ x ∈ l := by
  unfold su
  rw [(sortP_perm _).mem_iff, mem_insAll]
  simp
theorem su_nd {l : List S} : (su l).Nodup := (sortP_perm _).nodup_iff.mpr (insAll_nd nodup_nil)
theorem su_srt {l : List S} : sortP (su l) = su l := sortP_idem _
theorem su_len {l : List S} : (su l).length ≤ l.length := by
  unfold su
  rw [(sortP_perm _).length_eq]
  have := insAll_len (ks := l) (l := [])
  simpa using this
theorem su_eq {l m : List S} (h : ∀ x, x ∈ l ↔ x ∈ m) : su l = su m := by
  apply sortP_eq
  rw [perm_ext_iff_of_nodup (insAll_nd nodup_nil) (insAll_nd nodup_nil)]
  intro x
  rw [mem_insAll, mem_insAll]
  simp [h x]
theorem su_of_nd {l : List S} (h : l.Nodup) : su l = sortP l := by
  unfold su
  rw [insAll_self (by simpa using h)]
  rfl
theorem su_self {l : List S} (h : l.Nodup) (hs : sortP l = l) : su l = l := by rw [su_of_nd h, hs]
theorem su_iff {l m : List S} (h : m.Nodup) (hs : sortP m = m) (hx : ∀ x, x ∈ l ↔ x ∈ m) : su l = m := by rw [su_eq hx, su_self h hs]
/-! ### treads -/
structure Vd (n : Nat) (A : List S) (e : S) : Prop where
  nd : A.Nodup
  srt : sortP A = A
  pl : ∀ p, p ∈ A → isP p
  pre : ∀ p, p ∈ A → ∀ k, p.take k ∈ A
  en : e ∈ A
  len : A.length ≤ n
  wid : ∀ p, p ∈ A → p.length ≤ n
theorem Vd.nil {n : Nat} {A : List S} {e : S} (h : Vd n A e) : [] ∈ A := by simpa using h.pre e h.en 0
theorem Vd.su {n : Nat} {A : List S} {e : S} (h : Vd n A e) : su A = A := su_self h.nd h.srt
theorem Vd.mono {n m : Nat} {A : List S} {e : S} (h : Vd n A e) (hm : n ≤ m) : Vd m A e := ⟨h.nd, h.srt, h.pl, h.pre, h.en, Nat.le_trans h.len hm, fun p hp => Nat.le_trans (h.wid p hp) hm⟩
theorem Vd.spare {n : Nat} {A : List S} {e : S} (h : Vd n A e) : Vd n A [] := ⟨h.nd, h.srt, h.pl, h.pre, h.nil, h.len, h.wid⟩
theorem vd_su {n : Nat} {l : List S} {e : S} (pl : ∀ p, p ∈ l → isP p) (pre : ∀ p, p ∈ l → ∀ k, p.take k ∈ l) (en : e ∈ l) (len : l.length ≤ n) (wid : ∀ p, p ∈ l → p.length ≤ n) : Vd n (su l) e :=
  ⟨su_nd, su_srt, fun p hp => pl p (mem_su.mp hp), fun p hp k => mem_su.mpr (pre p (mem_su.mp hp) k), mem_su.mpr en, Nat.le_trans su_len len, fun p hp => wid p (mem_su.mp hp)⟩
/-- beginnings of what is gone from g -/
theorem pre_mul (C : S → Prop) (g : S) (hg : ∀ n, C (g.take n)) : ∀ (m : Nat) (q : S), q.length = m → (∀ k, C (mul g (q.take k))) → ∀ n, C ((mul g q).take n)
  | 0, q, hm, _, n => by
    have : q = [] := length_eq_zero_iff.mp hm
    subst this
    rw [mul_nil]
    exact hg n
  | m + 1, q, hm, hq, n => by
    rcases List.eq_nil_or_concat q with h | ⟨r, c, h⟩
    · subst h
      simp at hm
    · have hc : q = r ++ [c] := by simpa using h
      subst hc
      have hr : r.length = m := by simpa using hm
      have ih := pre_mul C g hg m r hr (by
        intro k
        have := hq (min k r.length)
        rw [take_append_of_le_length (Nat.min_le_right _ _)] at this
        rwa [take_eq_take_min])
      have hall := hq (r.length + 1)
      rw [take_of_length_le (by simp)] at hall
      rw [mul_snoc] at hall ⊢
      unfold gop at hall ⊢
      split at hall
      · rename_i hd
        rw [if_pos hd, dropLast_eq_take, take_take]
        exact ih _
      · rename_i hd
        rw [if_neg hd]
        by_cases hn : n ≤ (mul g r).length
        · rw [take_append_of_le_length hn]
          exact ih _
        · rw [take_of_length_le (by simp; omega)]
          exact hall
theorem redB_appL {b : S} : ∀ {a : S}, redB (a ++ b) = true → redB a = true
  | [], _ => rfl
  | [c], _ => rfl
  | c :: d :: r, h => by
    show (decide (d ≠ inv c) && redB (d :: r)) = true
    have h2 : (decide (d ≠ inv c) && redB (d :: r ++ b)) = true := h
    rw [Bool.and_eq_true] at h2 ⊢
    exact ⟨h2.1, redB_appL h2.2⟩
theorem isP_drop {p : S} (h : isP p) (n : Nat) : isP (p.drop n) := by
  refine ⟨?_, ?_⟩
  · have := h.1
    simp only [letB, List.all_eq_true] at this ⊢
    exact fun x hx => this x (List.mem_of_mem_drop hx)
  · have h2 := h.2
    rw [← List.take_append_drop n p, List.reverse_append] at h2
    exact redB_appL h2
theorem bk_take {p : S} (h : isP p) (n : Nat) : ∃ k, (bk p).take n = mul (bk p) (p.take k) := by
  refine ⟨p.length - n, ?_⟩
  have hu := isP_take h (p.length - n)
  have hv := isP_drop h (p.length - n)
  have e : p = mul (p.take (p.length - n)) (p.drop (p.length - n)) := by
    have h1 := rd_app (u := p.take (p.length - n)) (v := p.drop (p.length - n))
    rw [take_append_drop, rd_self h, rd_self hu] at h1
    exact h1
  have e1 : bk p = mul (bk (p.drop (p.length - n))) (bk (p.take (p.length - n))) := by
    conv => lhs; rw [e]
    exact bk_mul hu hv
  have e2 : bk p = bk (p.drop (p.length - n)) ++ bk (p.take (p.length - n)) := by
    rw [← bk_append, take_append_drop]
  have e3 : mul (bk p) (p.take (p.length - n)) = bk (p.drop (p.length - n)) := by
    conv => lhs; rw [e1]
    rw [mul_assoc (isP_bk hv).2 (isP_bk hu).1 hu.1, bk_mul_self hu, mul_nil]
  rw [e3]
  conv => lhs; rw [e2]
  by_cases hn : n ≤ p.length
  · rw [take_append_of_le_length (by rw [bk_len, length_drop]; omega), take_of_length_le (by rw [bk_len, length_drop]; omega)]
  · have h0 : p.length - n = 0 := by omega
    rw [h0]
    simp only [take_zero, drop_zero, bk_nil, append_nil]
    exact take_of_length_le (by rw [bk_len]; omega)
/-! ### treads of words -/
/-- the places of a way -/
def wk (p : S) : S → List S
  | [] => []
  | c :: w => gop p c :: wk (gop p c) w
theorem mem_wk {x : S} : ∀ {w p : S}, x ∈ p :: wk p w ↔ ∃ u v, w = u ++ v ∧ x = mul p u
  | [], p => by
    constructor
    · intro h
      exact ⟨[], [], rfl, by rw [mul_nil]; simpa [wk] using h⟩
    · rintro ⟨u, v, h1, h2⟩
      have : u = [] := (append_eq_nil_iff.mp h1.symm).1
      rw [h2, this, mul_nil]
      exact mem_cons_self
  | c :: w, p => by
    show x ∈ p :: gop p c :: wk (gop p c) w ↔ _
    rw [mem_cons, mem_wk (w := w) (p := gop p c)]
    constructor
    · rintro (h | ⟨u, v, h1, h2⟩)
      · exact ⟨[], c :: w, rfl, by rw [mul_nil]; exact h⟩
      · exact ⟨c :: u, v, by rw [h1]; rfl, by rw [mul_cons]; exact h2⟩
    · rintro ⟨u, v, h1, h2⟩
      cases u with
      | nil => exact .inl (by rw [h2, mul_nil])
      | cons d u =>
        rw [cons_append] at h1
        injection h1 with h3 h4
        subst h3
        exact .inr ⟨u, v, h4, by rw [h2, mul_cons]⟩
theorem wk_len : ∀ {w p : S}, (wk p w).length = w.length
  | [], _ => rfl
  | c :: w, p => by
    show (wk (gop p c) w).length + 1 = _
    rw [wk_len]
    rfl
def trd (w : S) : List S := su ([] :: wk [] w)
theorem mem_trd {w x : S} : x ∈ trd w ↔ ∃ u v, w = u ++ v ∧ x = rd u := by
  unfold trd
  rw [mem_su, mem_wk]
  rfl
theorem vd_trd {w : S} (hw : letB w = true) : Vd (w.length + 1) (trd w) (rd w) := by
  have hm : ∀ x, x ∈ [] :: wk [] w ↔ ∃ u v, w = u ++ v ∧ x = rd u := fun x => mem_wk
  refine vd_su ?_ ?_ ?_ ?_ ?_
  · intro p hp
    obtain ⟨u, v, h1, rfl⟩ := (hm p).mp hp
    rw [h1, letB_app, Bool.and_eq_true] at hw
    exact isP_rd hw.1
  · intro p hp
    obtain ⟨u, v, h1, rfl⟩ := (hm p).mp hp
    refine pre_mul (fun x => x ∈ [] :: wk [] w) [] ?_ _ u rfl ?_
    · intro n
      rw [take_nil]
      exact mem_cons_self
    · intro k
      refine (hm _).mpr ⟨u.take k, u.drop k ++ v, ?_, rfl⟩
      rw [h1, ← append_assoc, take_append_drop]
  · exact (hm _).mpr ⟨w, [], by simp, rfl⟩
  · simp [wk_len]
  · intro p hp
    obtain ⟨u, v, h1, rfl⟩ := (hm p).mp hp
    have := mul_len (p := []) (w := u)
    rw [h1, length_append]
    simp at this
    unfold rd
    omega
/-- places of a tread that is a place's -/
theorem mem_trd_pl {p x : S} (h : isP p) : x ∈ trd p ↔ ∃ k, x = p.take k := by
  rw [mem_trd]
  constructor
  · rintro ⟨u, v, h1, h2⟩
    have hu : u = p.take u.length := by rw [h1]; simp
    refine ⟨u.length, ?_⟩
    rw [h2, ← hu, hu, rd_self (isP_take h _)]
  · rintro ⟨k, rfl⟩
    exact ⟨p.take k, p.drop k, (take_append_drop k p).symm, (rd_self (isP_take h k)).symm⟩
/-! ### products, backs, what is seen -/
theorem vd_mul {n m : Nat} {A B : List S} {e f : S} (hA : Vd n A e) (hB : Vd m B f) : Vd (n + m) (su (A ++ B.map (mul e))) (mul e f) := by
  have he := hA.pl e hA.en
  refine vd_su ?_ ?_ ?_ ?_ ?_
  · intro p hp
    rcases mem_append.mp hp with h | h
    · exact hA.pl p h
    · obtain ⟨q, hq, rfl⟩ := mem_map.mp h
      exact isP_mul he (hB.pl q hq).1
  · intro p hp
    rcases mem_append.mp hp with h | h
    · exact fun k => mem_append.mpr (.inl (hA.pre p h k))
    · obtain ⟨q, hq, rfl⟩ := mem_map.mp h
      exact pre_mul (fun x => x ∈ A ++ B.map (mul e)) e (fun k => mem_append.mpr (.inl (hA.pre e hA.en k))) _ q rfl
        fun k => mem_append.mpr (.inr (mem_map.mpr ⟨_, hB.pre q hq k, rfl⟩))
  · exact mem_append.mpr (.inr (mem_map.mpr ⟨f, hB.en, rfl⟩))
  · rw [length_append, length_map]
    exact Nat.add_le_add hA.len hB.len
  · intro p hp
    rcases mem_append.mp hp with h | h
    · exact Nat.le_trans (hA.wid p h) (Nat.le_add_right _ _)
    · obtain ⟨q, hq, rfl⟩ := mem_map.mp h
      exact Nat.le_trans mul_len (Nat.add_le_add (hA.wid e hA.en) (hB.wid q hq))
theorem vd_seen {n : Nat} {A : List S} {e p : S} (hA : Vd n A e) (hp : p ∈ A) : Vd (n + n) (su (A.map (mul (bk p)))) (mul (bk p) e) := by
  have hP := hA.pl p hp
  refine vd_su ?_ ?_ ?_ ?_ ?_
  · intro q hq
    obtain ⟨x, hx, rfl⟩ := mem_map.mp hq
    exact isP_mul (isP_bk hP) (hA.pl x hx).1
  · intro q hq
    obtain ⟨x, hx, rfl⟩ := mem_map.mp hq
    refine pre_mul (fun y => y ∈ A.map (mul (bk p))) (bk p) ?_ _ x rfl fun k => mem_map.mpr ⟨_, hA.pre x hx k, rfl⟩
    intro k
    obtain ⟨j, hj⟩ := bk_take hP k
    rw [hj]
    exact mem_map.mpr ⟨_, hA.pre p hp j, rfl⟩
  · exact mem_map.mpr ⟨e, hA.en, rfl⟩
  · rw [length_map]
    exact Nat.le_trans hA.len (Nat.le_add_right _ _)
  · intro q hq
    obtain ⟨x, hx, rfl⟩ := mem_map.mp hq
    exact Nat.le_trans mul_len (Nat.add_le_add (by rw [bk_len]; exact hA.wid p hp) (hA.wid x hx))
theorem vd_over {n m : Nat} {A B : List S} {e : S} (hA : Vd n A e) (hB : Vd m B e) : Vd (n + m) (su (A ++ B)) e := by
  refine vd_su ?_ ?_ ?_ ?_ ?_
  · intro p hp
    rcases mem_append.mp hp with h | h
    · exact hA.pl p h
    · exact hB.pl p h
  · intro p hp k
    rcases mem_append.mp hp with h | h
    · exact mem_append.mpr (.inl (hA.pre p h k))
    · exact mem_append.mpr (.inr (hB.pre p h k))
  · exact mem_append.mpr (.inl hA.en)
  · rw [length_append]
    exact Nat.add_le_add hA.len hB.len
  · intro p hp
    rcases mem_append.mp hp with h | h
    · exact Nat.le_trans (hA.wid p h) (Nat.le_add_right _ _)
    · exact Nat.le_trans (hB.wid p h) (Nat.le_add_left _ _)
def cmn (A B : List S) : List S := A.filter fun p => decide (p ∈ B)
theorem mem_cmn {A B : List S} {x : S} : x ∈ cmn A B ↔ x ∈ A ∧ x ∈ B := by simp [cmn]
theorem vd_cmn {n m : Nat} {A B : List S} {e : S} (hA : Vd n A e) (hB : Vd m B e) : Vd n (cmn A B) e where
  nd := hA.nd.filter _
  srt := by
    refine mergeSort_of_pairwise ?_
    refine Pairwise.filter _ ?_
    rw [← hA.srt]
    exact sortP_pw A
  pl p hp := hA.pl p (mem_cmn.mp hp).1
  pre p hp k := mem_cmn.mpr ⟨hA.pre p (mem_cmn.mp hp).1 k, hB.pre p (mem_cmn.mp hp).2 k⟩
  en := mem_cmn.mpr ⟨hA.en, hB.en⟩
  len := Nat.le_trans (length_filter_le _ _) hA.len
  wid p hp := hA.wid p (mem_cmn.mp hp).1
end Mi
end
section
set_option linter.all false
/-! Formulas of treads. -/
namespace Mi
open List
theorem map_mul_bk {n : Nat} {A : List S} {e p x : S} (hA : Vd n A e) (hp : isP p) : x ∈ (su (A.map (mul (bk p)))).map (mul p) ↔ x ∈ A := by
  rw [mem_map]
  constructor
  · rintro ⟨y, hy, rfl⟩
    obtain ⟨z, hz, rfl⟩ := mem_map.mp (mem_su.mp hy)
    rw [mul_bk_mul hp (hA.pl z hz)]
    exact hz
  · intro hx
    exact ⟨mul (bk p) x, mem_su.mpr (mem_map.mpr ⟨x, hx, rfl⟩), mul_bk_mul hp (hA.pl x hx)⟩
/-- the back's tread -/
theorem trd_bk {w : S} (hw : letB w = true) : trd (bk w) = su ((trd w).map (mul (bk (rd w)))) := by
  refine su_eq ?_
  intro x
  have h1 : x ∈ [] :: wk [] (bk w) ↔ ∃ u v, bk w = u ++ v ∧ x = rd u := mem_wk
  rw [h1, mem_map]
  have key : ∀ u v, w = u ++ v → mul (bk (rd w)) (rd u) = rd (bk v) := by
    intro u v h
    have hl := hw
    rw [h, letB_app, Bool.and_eq_true] at hl
    rw [bk_rd hw, mul_rd (isP_rd (bk_let hw)) hl.1, ← rd_app, h, bk_append, rd_app, rd_app]
    have := mul_bk (p := rd (bk v)) (w := bk u) (isP_rd (bk_let hl.2)) (bk_let hl.1)
    rwa [bk_bk hl.1] at this
  constructor
  · rintro ⟨u, v, h, rfl⟩
    have e : w = bk v ++ bk u := by rw [← bk_append, ← h, bk_bk hw]
    refine ⟨rd (bk v), mem_trd.mpr ⟨bk v, bk u, e, rfl⟩, ?_⟩
    rw [key _ _ e, bk_bk]
    have hl := bk_let hw
    rw [h, letB_app, Bool.and_eq_true] at hl
    exact hl.1
  · rintro ⟨y, hy, rfl⟩
    obtain ⟨u, v, h, rfl⟩ := mem_trd.mp hy
    exact ⟨bk v, bk u, by rw [h, bk_append], key u v h⟩
/-- a tread and what is seen from a place of it -/
theorem mul_seen {n : Nat} {A C : List S} {e p : S} (hA : Vd n A e) (hp : isP p) (hC : ∀ x, x ∈ C → x ∈ A) : su (C ++ (su (A.map (mul (bk p)))).map (mul p)) = A := by
  refine su_iff hA.nd hA.srt ?_
  intro x
  rw [mem_append, map_mul_bk hA hp]
  exact ⟨fun h => h.elim (hC x) id, .inr⟩
theorem trd_sub {n : Nat} {A : List S} {e p : S} (hA : Vd n A e) (hp : p ∈ A) : ∀ x, x ∈ trd p → x ∈ A := by
  intro x hx
  obtain ⟨k, rfl⟩ := (mem_trd_pl (hA.pl p hp)).mp hx
  exact hA.pre p hp k
theorem trd_bk_sub {n : Nat} {A : List S} {e p : S} (hA : Vd n A e) (hp : p ∈ A) : ∀ x, x ∈ trd (bk p) → x ∈ A.map (mul (bk p)) := by
  intro x hx
  obtain ⟨k, rfl⟩ := (mem_trd_pl (isP_bk (hA.pl p hp))).mp hx
  obtain ⟨j, hj⟩ := bk_take (hA.pl p hp) k
  rw [hj]
  exact mem_map.mpr ⟨_, hA.pre p hp j, rfl⟩
/-- the walk back and the tread -/
theorem seen_mul {n : Nat} {A : List S} {e p : S} (hA : Vd n A e) (hp : p ∈ A) : su (trd (bk p) ++ A.map (mul (bk p))) = su (A.map (mul (bk p))) := by
  refine su_eq ?_
  intro x
  rw [mem_append]
  exact ⟨fun h => h.elim (trd_bk_sub hA hp x) id, .inr⟩
theorem start_mul {n : Nat} {A : List S} {e p : S} : su (su (A.map (mul (bk p))) ++ A.map (mul (bk p))) = su (A.map (mul (bk p))) := by
  refine su_eq ?_
  intro x
  rw [mem_append, mem_su]
  exact ⟨fun h => h.elim id id, .inr⟩
theorem seen_back {n : Nat} {A : List S} {e p : S} (hA : Vd n A e) (hp : p ∈ A) : su ((su (A.map (mul (bk p)))).map (mul (bk (bk p)))) = A := by
  rw [bk_bk (hA.pl p hp).1]
  refine su_iff hA.nd hA.srt ?_
  intro x
  exact map_mul_bk hA (hA.pl p hp)
theorem bk_mem {n : Nat} {A : List S} {e p : S} (hA : Vd n A e) : bk p ∈ su (A.map (mul (bk p))) :=
  mem_su.mpr (mem_map.mpr ⟨[], hA.nil, mul_nil⟩)
/-- no shift but one -/
theorem shift_one {n : Nat} {A : List S} {e p q : S} (hA : Vd n A e) (hp : p ∈ A) (hq : q ∈ A) (h : ∀ x, x ∈ A → mul (bk q) x ∈ A.map (mul (bk p))) : q = p := by
  have hP := hA.pl p hp
  have hQ := hA.pl q hq
  apply Classical.byContradiction
  intro hne
  -- g sends the tread into itself
  have g0 : ∃ g, isP g ∧ g ≠ [] ∧ ∀ x, x ∈ A → mul g x ∈ A := by
    refine ⟨mul p (bk q), isP_mul hP (isP_bk hQ).1, ?_, ?_⟩
    · intro e
      have := congrArg (fun y => mul y q) e
      rw [mul_assoc hP.2 (isP_bk hQ).1 hQ.1, bk_mul_self hQ, mul_nil, nil_mul hQ] at this
      exact hne this.symm
    · intro x hx
      rw [mul_assoc hP.2 (isP_bk hQ).1 (hA.pl x hx).1]
      obtain ⟨y, hy, e⟩ := mem_map.mp (h x hx)
      rw [← e, mul_bk_mul hP (hA.pl y hy)]
      exact hy
  have all : ∀ k, ∃ g, isP g ∧ g ≠ [] ∧ k ≤ g.length ∧ ∀ x, x ∈ A → mul g x ∈ A := by
    intro k
    induction k with
    | zero => exact let ⟨g, a, b, c⟩ := g0; ⟨g, a, b, Nat.zero_le _, c⟩
    | succ k ih =>
      obtain ⟨g, a, b, c, d⟩ := ih
      have hl := sq_len a b
      refine ⟨mul g g, isP_mul a a.1, ?_, by omega, ?_⟩
      · intro e
        rw [e] at hl
        simp at hl
      · intro x hx
        rw [mul_assoc a.2 a.1 (hA.pl x hx).1]
        exact d _ (d x hx)
  obtain ⟨g, a, b, c, d⟩ := all (n + 1)
  have := d [] hA.nil
  rw [mul_nil] at this
  have := hA.wid g this
  omega
/-! ### two with one end -/
theorem spare_mul {A B : List S} {m : Nat} {e : S} (hB : Vd m B e) : su (A ++ B.map (mul [])) = su (A ++ B) := by
  have : B.map (mul []) = B := by
    conv => rhs; rw [← map_id B]
    exact map_congr_left fun x hx => nil_mul (hB.pl x hx)
  rw [this]
theorem over_comm {A B : List S} : su (A ++ B) = su (B ++ A) := su_eq fun x => by rw [mem_append, mem_append, or_comm]
theorem over_eq {n m : Nat} {A B : List S} {e : S} (hA : Vd n A e) (hB : Vd m B e) : su (A ++ B) = A ↔ ∀ x, x ∈ B → x ∈ A := by
  constructor
  · intro h x hx
    rw [← h]
    exact mem_su.mpr (mem_append.mpr (.inr hx))
  · intro h
    refine su_iff hA.nd hA.srt fun x => ?_
    rw [mem_append]
    exact ⟨fun h2 => h2.elim id (h x), .inl⟩
theorem cmn_eq {n m : Nat} {A B : List S} {e : S} (hA : Vd n A e) (hB : Vd m B e) : cmn A B = B ↔ ∀ x, x ∈ B → x ∈ A := by
  constructor
  · intro h x hx
    rw [← h] at hx
    exact (mem_cmn.mp hx).1
  · intro h
    have hc := vd_cmn hA hB
    rw [← hc.su]
    refine su_iff hB.nd hB.srt fun x => ?_
    rw [mem_cmn]
    exact ⟨fun g => g.2, fun g => ⟨h x g, g⟩⟩
theorem over_cmn {n m : Nat} {A B : List S} {e : S} (hA : Vd n A e) (hB : Vd m B e) : su (su (A ++ B) ++ cmn A B) = su (A ++ B) := by
  refine su_eq fun x => ?_
  rw [mem_append, mem_su, mem_cmn, mem_append]
  exact ⟨fun h => h.elim id fun g => .inl g.1, .inl⟩
/-! ### detours -/
theorem rd_detour {u a v : S} (hu : letB u = true) (ha : letB a = true) : rd (u ++ a ++ bk a ++ v) = rd (u ++ v) := by
  rw [rd_app (v := v), rd_app (v := bk a), rd_app (v := a), rd_app (u := u)]
  rw [mul_bk (isP_rd hu) ha]
end Mi
end
section
set_option linter.all false
set_option maxRecDepth 100000
/-! Evaluating: comprehensions, dicts of places, loops. -/
namespace Mi
open List
def plcs (A : List S) : List D := A.map .str
/-- the keys of a dict of places -/
def kd (A : List S) : List (S × D) := A.map fun x => (x, .bl true)
/-- a tread -/
def T (A : List S) (e : S) : D := .tup [.tup (plcs A), .str e]
theorem mapT_map {α : Type} {f : D → Tr (Option D)} {g : α → D} {h : α → D} : ∀ {l : List α}, (∀ x, x ∈ l → f (g x) = .ok (some (h x))) → mapT f (l.map g) = .ok (l.map h)
  | [], _ => rfl
  | a :: l, H => by
    have ih := mapT_map (l := l) fun x hx => H x (mem_cons_of_mem _ hx)
    show (f (g a)).bind _ = _
    rw [H a mem_cons_self]
    show (mapT f (l.map g)).bind _ = _
    rw [ih]
    rfl
theorem mapT_filter {α : Type} {f : D → Tr (Option D)} {g : α → D} {h : α → D} {b : α → Bool} : ∀ {l : List α}, (∀ x, x ∈ l → f (g x) = .ok (if b x = true then some (h x) else none)) → mapT f (l.map g) = .ok ((l.filter b).map h)
  | [], _ => rfl
  | a :: l, H => by
    have ih := mapT_filter (l := l) fun x hx => H x (mem_cons_of_mem _ hx)
    show (f (g a)).bind _ = _
    rw [H a mem_cons_self]
    show (mapT f (l.map g)).bind _ = _
    rw [ih]
    show Tr.ok _ = _
    cases hb : b a <;> simp [hb]
/-- [e for i in s] -/
theorem ev_lc {α : Type} {cl : Cl} {tb : Tabs} {s : Src} {i : Nat} {e : E} {Γ : Ga} {l : List α} {g h : α → D} (hs : evS cl tb s Γ = .ok (l.map g)) (hl : l.length ≤ line) (H : ∀ x, x ∈ l → ev cl tb e (Γ.set i (some (g x))) = .ok (h x)) : ev cl tb (.lc s (.nm i) e) Γ = .ok (.lst (l.map h)) := by
  simp only [ev, hs, Tr.ok_bind, length_map, if_pos hl]
  rw [mapT_map (h := h) (by
    intro x hx
    simp only [bindTg, H x hx]
    rfl)]
  rfl
/-- [e for i in s if c] -/
theorem ev_lcIf {α : Type} {cl : Cl} {tb : Tabs} {s : Src} {i : Nat} {c e : E} {Γ : Ga} {l : List α} {g h : α → D} {b : α → Bool} (hs : evS cl tb s Γ = .ok (l.map g)) (hl : l.length ≤ line) (Hc : ∀ x, x ∈ l → ev cl tb c (Γ.set i (some (g x))) = .ok (.bl (b x))) (H : ∀ x, x ∈ l → ev cl tb e (Γ.set i (some (g x))) = .ok (h x)) : ev cl tb (.lcIf s (.nm i) c e) Γ = .ok (.lst ((l.filter b).map h)) := by
  simp only [ev, hs, Tr.ok_bind, length_map, if_pos hl]
  rw [mapT_filter (h := h) (b := b) (by
    intro x hx
    simp only [bindTg, Hc x hx, Tr.noErr, Tr.ok_bind, truth]
    cases b x
    · rfl
    · simp only [H x hx]
      rfl)]
  rfl
/-- [e for i, j in s] -/
theorem ev_lc2 {α : Type} {cl : Cl} {tb : Tabs} {s : Src} {i j : Nat} {e : E} {Γ : Ga} {l : List α} {g1 g2 h : α → D} (hs : evS cl tb s Γ = .ok (l.map fun x => .tup [g1 x, g2 x])) (hl : l.length ≤ line) (H : ∀ x, x ∈ l → ev cl tb e ((Γ.set i (some (g1 x))).set j (some (g2 x))) = .ok (h x)) : ev cl tb (.lc s (.tp [i, j]) e) Γ = .ok (.lst (l.map h)) := by
  simp only [ev, hs, Tr.ok_bind, length_map, if_pos hl]
  rw [mapT_map (h := h) (by
    intro x hx
    simp only [bindTg, length_cons, length_nil, if_true, zip_cons_cons, zip_nil_left, foldl, H x hx]
    rfl)]
  rfl
theorem any_kd {L : List S} {k : S} : ((kd L).any fun kv => decide (kv.1 = k)) = decide (k ∈ L) := by
  induction L with
  | nil => rfl
  | cons a L ih =>
    show (decide (a = k) || (kd L).any _) = _
    rw [ih]
    by_cases h : a = k
    · simp [h]
    · have : ¬ k = a := fun e => h e.symm
      simp [h, this]
theorem put_kd {L : List S} {k : S} : put (kd L) k (.bl true) = kd (ins L k) := by
  unfold put ins
  rw [any_kd]
  by_cases h : k ∈ L
  · rw [if_pos (by simpa using h), if_pos h]
    show (kd L).map _ = kd L
    conv => rhs; rw [← map_id (kd L)]
    refine map_congr_left fun kv hkv => ?_
    obtain ⟨x, _, rfl⟩ := mem_map.mp hkv
    simp
  · rw [if_neg (by simpa using h), if_neg h]
    simp [kd]
theorem look_kd {L : List S} {k : S} : (look (kd L) k).isSome = decide (k ∈ L) := by
  rw [← any_kd]
  unfold look
  rw [Option.isSome_map, Bool.eq_iff_iff]
  simp [List.find?_isSome]
theorem kd_len {L : List S} : (kd L).length = L.length := by simp [kd]
theorem ins_len2 {l : List S} {k : S} : l.length ≤ (ins l k).length := by
  unfold ins
  split <;> simp
theorem putAll_kd {α : Type} {f : D → Tr (S × D)} {g : α → D} {h : α → S} : ∀ {l : List α} {L : List S}, L.length + l.length ≤ line → (∀ x, x ∈ l → f (g x) = .ok (h x, .bl true)) → putAll f (l.map g) (kd L) = .ok (kd (insAll L (l.map h)))
  | [], L, _, _ => rfl
  | a :: l, L, hl, H => by
    rw [length_cons] at hl
    have h2 := ins_len (l := L) (k := h a)
    have ih := putAll_kd (l := l) (L := ins L (h a)) (by omega) fun x hx => H x (mem_cons_of_mem _ hx)
    show (f (g a)).bind _ = _
    rw [H a mem_cons_self]
    show (if (kd L).length < line then putAll f (l.map g) (put (kd L) (h a) (.bl true)) else .stuck) = _
    rw [if_pos (by rw [kd_len]; omega), put_kd, ih]
    rfl
/-- {i: True for i in s} -/
theorem ev_dc {cl : Cl} {tb : Tabs} {s : Src} {i : Nat} {Γ : Ga} {A : List S} (hs : evS cl tb s Γ = .ok (plcs A)) (hl : A.length ≤ line) (hi : i < Γ.length) : ev cl tb (.dc s (.nm i) (.var i) (.cst (.bl true))) Γ = .ok (.dct (kd (insAll [] A))) := by
  simp only [ev, hs, Tr.ok_bind]
  have := putAll_kd (f := fun d => match bindTg d (.nm i) Γ with
    | some Γ1 => (ev cl tb (.var i) Γ1).noErr.bind fun x => (asStr x).bind fun z => (ev cl tb (.cst (.bl true)) Γ1).noErr.bind fun y => .ok (z, y)
    | none => .stuck) (g := D.str) (h := id) (l := A) (L := []) (by simpa using hl) (by
      intro x hx
      simp [bindTg, ev, hi, Tr.noErr, Tr.bind, asStr])
  rw [map_id] at this
  have e : kd [] = [] := rfl
  rw [e] at this
  simp only [ev] at this
  exact congrArg (fun t => t.bind fun kvs => Tr.ok (D.dct kvs)) this
theorem allB_map {α : Type} {b : α → Bool} : ∀ {l : List α}, allB (l.map fun x => .bl (b x)) = some (l.all b)
  | [] => rfl
  | a :: l => by
    show (allB (l.map fun x => .bl (b x))).map _ = _
    rw [allB_map]
    rfl
theorem opAll_map {α : Type} {b : α → Bool} {l : List α} : opAll (.lst (l.map fun x => .bl (b x))) = .ok (.bl (l.all b)) := by
  simp only [opAll, allB_map]
theorem opAll_true {α : Type} {l : List α} : opAll (.lst (l.map fun _ => .bl true)) = .ok (.bl true) := by
  rw [opAll_map (b := fun _ => true)]
  simp
theorem strL_map {A : List S} : strL (plcs A) = some A := by
  induction A with
  | nil => rfl
  | cons a A ih =>
    show (strL (plcs A)).map _ = _
    rw [ih]
    rfl
theorem joinS_one {α : Type} {h : α → Nat} : ∀ {l : List α}, joinS [] (l.map fun x => [h x]) = l.map h
  | [] => rfl
  | [a] => rfl
  | a :: b :: l => by
    show [h a] ++ [] ++ joinS [] ((b :: l).map fun x => [h x]) = _
    rw [joinS_one]
    rfl
theorem opJoin_one {α : Type} {h : α → Nat} {l : List α} (hl : l.length ≤ line) : opJoin [] (.lst (l.map fun x => .str [h x])) = .ok (.str (l.map h)) := by
  have e : (l.map fun x => D.str [h x]) = plcs (l.map fun x => [h x]) := by simp [plcs]
  rw [e]
  simp only [opJoin, strL_map]
  have e2 : ((l.map fun x => [h x]).map length).sum = l.length := by
    clear hl e
    induction l with
    | nil => rfl
    | cons a l ih =>
      simp only [map_cons, sum_cons, ih, length_cons, length_nil]
      omega
  rw [e2, joinS_one]
  simp [hl]
theorem eqDs_strs {A B : List S} : eqDs (plcs A) (plcs B) = decide (A = B) := by
  induction A generalizing B with
  | nil => cases B <;> simp [plcs, eqDs]
  | cons a A ih =>
    cases B with
    | nil => simp [plcs, eqDs]
    | cons b B =>
      show ((a == b) && eqDs (plcs A) (plcs B)) = _
      rw [ih, Bool.eq_iff_iff]
      simp
theorem data_strs {A : List S} : dataAll (plcs A) = true := by
  induction A with
  | nil => rfl
  | cons a A ih => exact ih
theorem depth_strs {A : List S} : depthAll (plcs A) = 0 := by
  induction A with
  | nil => rfl
  | cons a A ih =>
    show max 0 (depthAll (plcs A)) = 0
    rw [ih]
    rfl
theorem imm_strs {A : List S} : immAll (plcs A) = true := by
  induction A with
  | nil => rfl
  | cons a A ih => exact ih
theorem flat_strs {A : List S} : (plcs A).all flat = true := by simp [plcs, flat]
theorem any_strs {A : List S} {x : S} : ((plcs A).any fun y => eqD y (.str x)) = decide (x ∈ A) := by
  rw [Bool.eq_iff_iff]
  simp [plcs, eqD]
theorem eqD_T {A B : List S} {e f : S} : eqD (T A e) (T B f) = (decide (A = B) && decide (e = f)) := by
  show (eqDs (plcs A) (plcs B) && ((e == f) && true)) = _
  rw [eqDs_strs, Bool.eq_iff_iff]
  simp
theorem data_T {A : List S} {e : S} : isData (T A e) = true := by
  show (dataAll (plcs A) && true) = true
  rw [data_strs]
  rfl
theorem depth_T {A : List S} {e : S} : depth (T A e) ≤ 60 := by
  show 1 + max (1 + depthAll (plcs A)) (max 0 0) ≤ 60
  rw [depth_strs]
  decide
theorem imm_T {A : List S} {e : S} : imm (T A e) = true := by
  show (immAll (plcs A) && true) = true
  rw [imm_strs]
  rfl
theorem opEq_T {A B : List S} {e f : S} : opEq (T A e) (T B f) = .ok (.bl (decide (A = B) && decide (e = f))) := by
  unfold opEq
  rw [if_pos ⟨data_T, data_T, depth_T, depth_T⟩, eqD_T]
theorem opNe_T {A B : List S} {e f : S} : opNe (T A e) (T B f) = .ok (.bl (!(decide (A = B) && decide (e = f)))) := by
  unfold opNe
  rw [if_pos ⟨data_T, data_T, depth_T, depth_T⟩, eqD_T]
theorem opEq_str {x y : S} : opEq (.str x) (.str y) = .ok (.bl (decide (x = y))) := by
  unfold opEq
  rw [if_pos ⟨rfl, rfl, Nat.zero_le _, Nat.zero_le _⟩]
  show Tr.ok (D.bl (x == y)) = _
  rw [show (x == y) = decide (x = y) from by rw [Bool.eq_iff_iff]; simp]
theorem opNe_str {x y : S} : opNe (.str x) (.str y) = .ok (.bl (!decide (x = y))) := by
  unfold opNe
  rw [if_pos ⟨rfl, rfl, Nat.zero_le _, Nat.zero_le _⟩]
  show Tr.ok (D.bl (!(x == y))) = _
  rw [show (x == y) = decide (x = y) from by rw [Bool.eq_iff_iff]; simp]
theorem opNe_int {x y : Int} : opNe (.int x) (.int y) = .ok (.bl (!decide (x = y))) := by
  unfold opNe
  rw [if_pos ⟨rfl, rfl, Nat.zero_le _, Nat.zero_le _⟩]
  show Tr.ok (D.bl (!(x == y))) = _
  rw [show (x == y) = decide (x = y) from by rw [Bool.eq_iff_iff]; simp]
theorem opEq_int {x y : Int} : opEq (.int x) (.int y) = .ok (.bl (decide (x = y))) := by
  unfold opEq
  rw [if_pos ⟨rfl, rfl, Nat.zero_le _, Nat.zero_le _⟩]
  show Tr.ok (D.bl (x == y)) = _
  rw [show (x == y) = decide (x = y) from by rw [Bool.eq_iff_iff]; simp]
theorem opNe_bl {x y : Bool} : opNe (.bl x) (.bl y) = .ok (.bl (xor x y)) := by
  unfold opNe
  rw [if_pos ⟨rfl, rfl, Nat.zero_le _, Nat.zero_le _⟩]
  show Tr.ok (D.bl (!(x == y))) = _
  cases x <;> cases y <;> rfl
theorem opIn_tup {A : List S} {x : S} {neg : Bool} : opIn neg (.str x) (.tup (plcs A)) = .ok (.bl (xor neg (decide (x ∈ A)))) := by
  have h : (flat (.str x) = true ∧ (plcs A).all flat = true) := ⟨rfl, flat_strs⟩
  simp only [opIn, if_pos h, any_strs]
theorem opIn_kd {A : List S} {x : S} {neg : Bool} : opIn neg (.str x) (.dct (kd A)) = .ok (.bl (xor neg (decide (x ∈ A)))) := by
  simp only [opIn, look_kd]
theorem cut_last {α : Type} {p : List α} : cut p (some (-1)) none = p.drop (p.length - 1) := by
  have e : HT.sIx p.length 0 (some (-1)) = p.length - 1 := by
    show (if (-1 : Int) < 0 then ((-1 : Int) + (p.length : Int)).toNat else min (-1 : Int).toNat p.length) = _
    rw [if_pos (by decide)]
    omega
  unfold cut
  rw [e, HT.sIx_none]
  exact take_of_length_le (by simp)
theorem cut_init {α : Type} {p : List α} : cut p none (some (-1)) = p.dropLast := by
  have e : HT.sIx p.length p.length (some (-1)) = p.length - 1 := by
    show (if (-1 : Int) < 0 then ((-1 : Int) + (p.length : Int)).toNat else min (-1 : Int).toNat p.length) = _
    rw [if_pos (by decide)]
    omega
  unfold cut
  rw [e, HT.sIx_none, drop_zero, dropLast_eq_take]
  rfl
theorem cut_to {α : Type} {p : List α} {n : Nat} : cut p none (some (n : Int)) = p.take n := by
  unfold cut
  rw [HT.sIx_nat, HT.sIx_none, drop_zero, Nat.sub_zero, ← take_eq_take_min]
theorem cut_from {α : Type} {p : List α} {n : Nat} : cut p (some (n : Int)) none = p.drop n := by
  unfold cut
  rw [HT.sIx_nat, HT.sIx_none]
  by_cases h : n ≤ p.length
  · rw [Nat.min_eq_left h]
    exact take_of_length_le (by simp)
  · rw [Nat.min_eq_right (by omega), Nat.sub_self, take_zero, drop_of_length_le (by omega)]
theorem cut_tail {α : Type} {p : List α} : cut p (some 1) none = p.drop 1 := cut_from (n := 1)
/-! the evaluator's equations but for comprehensions -/
theorem e_var {cl : Cl} {tb : Tabs} {i : _} {Γ : Ga} : ev cl tb (.var i) Γ = ( (match Γ[i]? with
    | some (some d) => .ok d
    | _ => .stuck)) := rfl
theorem e_cst {cl : Cl} {tb : Tabs} {d : _} {Γ : Ga} : ev cl tb (.cst d) Γ = ( .ok d) := rfl
theorem e_bin {cl : Cl} {tb : Tabs} {o : _} {a : _} {b : _} {Γ : Ga} : ev cl tb (.bin o a b) Γ = ( (ev cl tb a Γ).bind fun x => (ev cl tb b Γ).bind fun y => o.run x y) := rfl
theorem e_neg {cl : Cl} {tb : Tabs} {a : _} {Γ : Ga} : ev cl tb (.neg a) Γ = ( (ev cl tb a Γ).bind opNeg) := rfl
theorem e_not {cl : Cl} {tb : Tabs} {a : _} {Γ : Ga} : ev cl tb (.not a) Γ = ( (ev cl tb a Γ).bind fun x => (truth x).bind fun b => .ok (.bl (!b))) := rfl
theorem e_and {cl : Cl} {tb : Tabs} {a : _} {b : _} {Γ : Ga} : ev cl tb (.and a b) Γ = ( (ev cl tb a Γ).bind fun x => (asBool x).bind fun c => match c with
    | true => (ev cl tb b Γ).bind fun y => (asBool y).bind fun d => .ok (.bl d)
    | false => .ok (.bl false)) := rfl
theorem e_or {cl : Cl} {tb : Tabs} {a : _} {b : _} {Γ : Ga} : ev cl tb (.or a b) Γ = ( (ev cl tb a Γ).bind fun x => (asBool x).bind fun c => match c with
    | true => .ok (.bl true)
    | false => (ev cl tb b Γ).bind fun y => (asBool y).bind fun d => .ok (.bl d)) := rfl
theorem e_cmp {cl : Cl} {tb : Tabs} {o : _} {a : _} {b : _} {Γ : Ga} : ev cl tb (.cmp o a b) Γ = ( (ev cl tb a Γ).bind fun x => (ev cl tb b Γ).bind fun y => o.run x y) := rfl
theorem e_isN {cl : Cl} {tb : Tabs} {neg : _} {a : _} {Γ : Ga} : ev cl tb (.isN neg a) Γ = ( (ev cl tb a Γ).bind fun x => .ok (.bl (xor neg (isNon x)))) := rfl
theorem e_isB {cl : Cl} {tb : Tabs} {neg : _} {v : _} {a : _} {Γ : Ga} : ev cl tb (.isB neg v a) Γ = ( (ev cl tb a Γ).bind fun x => (asBool x).bind fun k => .ok (.bl (xor neg (k == v)))) := rfl
theorem e_ife {cl : Cl} {tb : Tabs} {t : _} {a : _} {b : _} {Γ : Ga} : ev cl tb (.ife t a b) Γ = ( (ev cl tb t Γ).bind fun x => (truth x).bind fun c => match c with
    | true => ev cl tb a Γ
    | false => ev cl tb b Γ) := rfl
theorem e_tup {cl : Cl} {tb : Tabs} {es : _} {Γ : Ga} : ev cl tb (.tup es) Γ = ( (evs cl tb es Γ).bind fun xs => .ok (.tup xs)) := rfl
theorem e_lst {cl : Cl} {tb : Tabs} {es : _} {Γ : Ga} : ev cl tb (.lst es) Γ = ( (evs cl tb es Γ).bind fun xs => .ok (.lst xs)) := rfl
theorem e_dct0 {cl : Cl} {tb : Tabs} {Γ : Ga} : ev cl tb (.dct0) Γ = ( .ok (.dct [])) := rfl
theorem e_dct1 {cl : Cl} {tb : Tabs} {k : _} {v : _} {Γ : Ga} : ev cl tb (.dct1 k v) Γ = ( (ev cl tb k Γ).bind fun x => (ev cl tb v Γ).bind fun y => (asStr x).bind fun z => .ok (.dct [(z, y)])) := rfl
theorem e_call {cl : Cl} {tb : Tabs} {f : _} {es : _} {Γ : Ga} : ev cl tb (.call f es) Γ = ( (evs cl tb es Γ).bind fun xs => cl f xs) := rfl
theorem e_bi {cl : Cl} {tb : Tabs} {f : _} {es : _} {Γ : Ga} : ev cl tb (.bi f es) Γ = ( (evs cl tb es Γ).bind fun xs => f.run xs) := rfl
theorem e_isi {cl : Cl} {tb : Tabs} {T : _} {a : _} {Γ : Ga} : ev cl tb (.isi T a) Γ = ( (ev cl tb a Γ).bind fun x => (tyIs T x).bind fun b => .ok (.bl b)) := rfl
theorem e_ix {cl : Cl} {tb : Tabs} {a : _} {i : _} {Γ : Ga} : ev cl tb (.ix a i) Γ = ( (ev cl tb a Γ).bind fun x => (ev cl tb i Γ).bind fun y => opIx x y) := rfl
theorem e_sl0 {cl : Cl} {tb : Tabs} {a : _} {Γ : Ga} : ev cl tb (.sl0 a) Γ = ( (ev cl tb a Γ).bind fun x => opSl none none x) := rfl
theorem e_slT {cl : Cl} {tb : Tabs} {a : _} {h : _} {Γ : Ga} : ev cl tb (.slT a h) Γ = ( (ev cl tb a Γ).bind fun x => (ev cl tb h Γ).bind fun y => (opPart y).bind fun j => opSl none j x) := rfl
theorem e_slF {cl : Cl} {tb : Tabs} {a : _} {l : _} {Γ : Ga} : ev cl tb (.slF a l) Γ = ( (ev cl tb a Γ).bind fun x => (ev cl tb l Γ).bind fun y => (opPart y).bind fun i => opSl i none x) := rfl
theorem e_slB {cl : Cl} {tb : Tabs} {a : _} {l : _} {h : _} {Γ : Ga} : ev cl tb (.slB a l h) Γ = ( (ev cl tb a Γ).bind fun x => (ev cl tb l Γ).bind fun y => (opPart y).bind fun i => (ev cl tb h Γ).bind fun z => (opPart z).bind fun j => opSl i j x) := rfl
theorem e_rev {cl : Cl} {tb : Tabs} {a : _} {Γ : Ga} : ev cl tb (.rev a) Γ = ( (ev cl tb a Γ).bind opRev) := rfl
theorem e_join {cl : Cl} {tb : Tabs} {a : _} {e : _} {Γ : Ga} : ev cl tb (.join a e) Γ = ( (ev cl tb a Γ).bind fun x => (asStr x).bind fun z => (ev cl tb e Γ).bind fun y => opJoin z y) := rfl
theorem e_low {cl : Cl} {tb : Tabs} {up : _} {a : _} {Γ : Ga} : ev cl tb (.low up a) Γ = ( (ev cl tb a Γ).bind fun x => (asStr x).bind fun z => opCase up z) := rfl
theorem e_sset {cl : Cl} {tb : Tabs} {a : _} {Γ : Ga} : ev cl tb (.sset a) Γ = ( (ev cl tb a Γ).bind opSset) := rfl
theorem e_index {cl : Cl} {tb : Tabs} {a b : _} {Γ : Ga} : ev cl tb (.index a b) Γ = ( (ev cl tb a Γ).bind fun x => (asStr x).bind fun z => (ev cl tb b Γ).bind fun y => opIndex z y) := rfl
theorem e_sortk {cl : Cl} {tb : Tabs} {a : _} {Γ : Ga} : ev cl tb (.sortk a) Γ = ( (ev cl tb a Γ).bind opSortk) := rfl
theorem e_inTab {cl : Cl} {tb : Tabs} {neg : _} {t : _} {a : _} {Γ : Ga} : ev cl tb (.inTab neg t a) Γ = ( (ev cl tb a Γ).bind fun x => (asStr x).bind fun k => .ok (.bl (xor neg (lookT (tb.getD t []) k).isSome))) := rfl
theorem e_getTab {cl : Cl} {tb : Tabs} {t : _} {a : _} {Γ : Ga} : ev cl tb (.getTab t a) Γ = ( (ev cl tb a Γ).bind fun x => (asStr x).bind fun k => match lookT (tb.getD t []) k with
    | some v => .ok (.str v)
    | none => .stuck) := rfl
theorem e_chain {cl : Cl} {tb : Tabs} {o p : COp} {a b c : E} {Γ : Ga} : ev cl tb (.chain o p a b c) Γ = ((ev cl tb a Γ).bind fun x => (ev cl tb b Γ).bind fun y => (o.run x y).bind fun r => (asBool r).bind fun k => match k with
    | true => (ev cl tb c Γ).bind fun z => p.run y z
    | false => .ok (.bl false)) := rfl
/-- one statement on -/
theorem exs_next {cl : Cl} {tb : Tabs} {c : C} {cs : Cs} {g g' : Gs} (h : ex cl tb c g = .ok (.next g')) : exs cl tb (.cons c cs) g = exs cl tb cs g' := by
  show (ex cl tb c g).bind _ = _
  rw [h]
  rfl
theorem exs_ret {cl : Cl} {tb : Tabs} {c : C} {cs : Cs} {g : Gs} {d : D} (h : ex cl tb c g = .ok (.ret d)) : exs cl tb (.cons c cs) g = .ok (.ret d) := by
  show (ex cl tb c g).bind _ = _
  rw [h]
  rfl
/-- a loop's turns -/
theorem forL_map {α β : Type} {f : D → Gs → Tr Fl} {g : α → D} {st : β → Gs} {step : β → α → β} {I : β → List α → Prop} : ∀ {l : List α} {b : β}, I b l → (∀ b x r, I b (x :: r) → f (g x) (st b) = .ok (.next (st (step b x))) ∧ I (step b x) r) → forL f (l.map g) (st b) = .ok (.next (st (l.foldl step b)))
  | [], b, _, _ => rfl
  | a :: l, b, hI, H => by
    obtain ⟨h1, h2⟩ := H b a l hI
    show (f (g a) (st b)).bind _ = _
    rw [h1]
    exact forL_map (l := l) h2 H
/-- a loop's turns, the state by what holds of it -/
theorem forL_ex {α β : Type} {f : D → Gs → Tr Fl} {g : α → D} {step : β → α → β} {P : β → List α → Gs → Prop} (H : ∀ b x r s, P b (x :: r) s → ∃ s', f (g x) s = .ok (.next s') ∧ P (step b x) r s') : ∀ {l : List α} {b : β} {s : Gs}, P b l s → ∃ s', forL f (l.map g) s = .ok (.next s') ∧ P (l.foldl step b) [] s'
  | [], b, s, h => ⟨s, rfl, h⟩
  | a :: l, b, s, h => by
    obtain ⟨s1, h1, h2⟩ := H b a l s h
    obtain ⟨s2, h3, h4⟩ := forL_ex H (l := l) h2
    refine ⟨s2, ?_, h4⟩
    show (f (g a) s).bind _ = _
    rw [h1]
    exact h3
theorem opIx_T0 {A : List S} {e : S} : opIx (T A e) (.int 0) = .ok (.tup (plcs A)) := rfl
theorem opIx_T1 {A : List S} {e : S} : opIx (T A e) (.int 1) = .ok (.str e) := rfl
theorem zipL_strsL : ∀ {a b : S}, zipL (strsL a) (strsL b) = (a.zip b).map fun x => .tup [.str [x.1], .str [x.2]]
  | [], b => by cases b <;> rfl
  | x :: a, [] => rfl
  | x :: a, y :: b => by
    show _ :: zipL (strsL a) (strsL b) = _
    rw [zipL_strsL]
    rfl
theorem isP_adj {p : S} (h : isP p) : ∀ x, x ∈ p.dropLast.zip (p.drop 1) → isL x.1 = true ∧ inv x.1 ≠ x.2 := by
  intro x hx
  obtain ⟨i, hi, e⟩ := getElem_of_mem hx
  rw [getElem_zip] at e
  have hi' : i < p.length - 1 := by
    rw [length_zip, length_dropLast, length_drop] at hi
    omega
  have hl := h.1
  simp only [letB, all_eq_true] at hl
  have e1 : x.1 = p[i]'(by omega) := by
    rw [← e]
    exact getElem_dropLast _
  have e2 : x.2 = p[i + 1]'(by omega) := by
    rw [← e]
    show (p.drop 1)[i]'_ = _
    rw [getElem_drop]
    congr 1
    omega
  have hL1 : isL x.1 = true := by rw [e1]; exact hl _ (getElem_mem _)
  refine ⟨hL1, ?_⟩
  intro he
  have k := red_at h.2 (p.length - 1 - (i + 1)) (by rw [length_reverse]; omega)
  rw [getElem_reverse, getElem_reverse] at k
  have i1 : p.length - 1 - (p.length - 1 - (i + 1) + 1) = i := by omega
  have i2 : p.length - 1 - (p.length - 1 - (i + 1)) = i + 1 := by omega
  simp only [i1, i2] at k
  rw [← e1, ← e2, ← he, inv_inv hL1] at k
  exact k rfl
theorem isL_lt {c : Nat} (h : isL c = true) : c < 128 := by
  rw [isL_iff] at h
  omega
theorem letB_lt {w : S} (h : letB w = true) : (w.all fun c => decide (c < 128)) = true := by
  simp only [letB, all_eq_true] at h ⊢
  exact fun c hc => by simpa using isL_lt (h c hc)
theorem su_len_nd {l : List S} (h : l.Nodup) : (su l).length = l.length := by
  rw [su_of_nd h]
  exact (sortP_perm l).length_eq
theorem mul_inj {p x y : S} (hp : isP p) (hx : isP x) (hy : isP y) (h : mul p x = mul p y) : x = y := by
  rw [← bk_mul_mul hp hx, h, bk_mul_mul hp hy]
theorem map_mul_nd {p : S} (hp : isP p) : ∀ {A : List S}, A.Nodup → (∀ x, x ∈ A → isP x) → (A.map (mul p)).Nodup
  | [], _, _ => nodup_nil
  | a :: A, h, hA => by
    rw [nodup_cons] at h
    rw [map_cons, nodup_cons]
    refine ⟨?_, map_mul_nd hp h.2 fun x hx => hA x (mem_cons_of_mem _ hx)⟩
    intro hm
    obtain ⟨y, hy, e⟩ := mem_map.mp hm
    have := mul_inj hp (hA y (mem_cons_of_mem _ hy)) (hA a mem_cons_self) e
    exact h.1 (this ▸ hy)
theorem plcs_len {A : List S} : (plcs A).length = A.length := by simp [plcs]
theorem foldl_ins {A : List S} : ∀ {L : List S}, A.foldl (fun L x => ins L x) L = insAll L A := rfl
theorem opLen_str {x : S} : opLen (.str x) = .ok (.int x.length) := rfl
theorem opLen_lst {x : List D} : opLen (.lst x) = .ok (.int x.length) := rfl
theorem opLen_tup {x : List D} : opLen (.tup x) = .ok (.int x.length) := rfl
theorem opLen_dct {x : List (S × D)} : opLen (.dct x) = .ok (.int x.length) := rfl
theorem opLen_T {A : List S} {e : S} : opLen (T A e) = .ok (.int 2) := rfl
theorem ty_str {x : S} : tyIs .str (.str x) = .ok true := rfl
theorem ty_tup {x : List D} : tyIs .tuple (.tup x) = .ok true := rfl
theorem ty_T {A : List S} {e : S} : tyIs .tuple (T A e) = .ok true := rfl
theorem immEl_kd {L : List S} : immEl (.dct (kd L)) = true := by simp [immEl, kd, imm]
theorem keys_kd {L : List S} : (kd L).map (·.1) = L := by
  rw [kd, map_map]
  exact map_id L
theorem ex_for {cl : Cl} {tb : Tabs} {t : Tg} {s : Src} {b : Cs} {g g' : Gs} {xs : List D} {r : Tr Fl} (hs : evS cl tb s (vis s.ment g) = .ok xs) (hc : clr false s.ment g = g') (h : forL (fun d g => match bindG d t g with
    | some g' => exs cl tb b g'
    | none => .stuck) xs g' = r) : ex cl tb (.for_ t s b) g = r := by
  rw [← h, ← hc]
  show (evS cl tb s (vis s.ment g)).bind _ = _
  rw [hs]
  rfl
/-- a slot of a loop's name -/
def okY (y : Option (D × Bool)) : Prop := y = none ∨ ∃ x, y = some (.str x, false)
theorem mk_T {A : List S} {e : S} : D.tup [.tup (plcs A), .str e] = T A e := rfl
/-! ### slots that are nobody's own -/
def fr (Γ : Ga) : Gs := Γ.map fun o => o.map fun d => (d, false)
theorem vis_fr {ms : List Nat} : ∀ {k : Nat} {Γ : Ga}, visAt ms k (fr Γ) = Γ
  | _, [] => rfl
  | k, none :: r => by
    show none :: visAt ms (k + 1) (fr r) = _
    rw [vis_fr]
  | k, some d :: r => by
    show some d :: visAt ms (k + 1) (fr r) = _
    rw [vis_fr]
theorem vis_fr0 {ms : List Nat} {Γ : Ga} : vis ms (fr Γ) = Γ := vis_fr
theorem clrAt_fr {ms : List Nat} : ∀ {k : Nat} {Γ : Ga}, clrAt ms k (fr Γ) = fr Γ
  | _, [] => rfl
  | k, none :: r => by
    show none :: clrAt ms (k + 1) (fr r) = _
    rw [clrAt_fr]
    rfl
  | k, some d :: r => by
    show some (d, false) :: clrAt ms (k + 1) (fr r) = _
    rw [clrAt_fr]
    rfl
theorem clr_fr {b : Bool} {ms : List Nat} {Γ : Ga} : clr b ms (fr Γ) = fr Γ := by
  cases b
  · exact clrAt_fr
  · rfl
theorem set_fr {Γ : Ga} {i : Nat} {d : D} : (fr Γ).set i (some (d, false)) = fr (Γ.set i (some d)) := by
  unfold fr
  rw [List.map_set]
  rfl
theorem bindG_fr {Γ : Ga} {i : Nat} {d : D} : bindG d (.nm i) (fr Γ) = some (fr (Γ.set i (some d))) := by
  simp only [bindG, set_fr]
theorem bindG_fr2 {Γ : Ga} {i j : Nat} {x y : D} : bindG (.tup [x, y]) (.tp [i, j]) (fr Γ) = some (fr ((Γ.set i (some x)).set j (some y))) := by
  simp only [bindG, length_cons, length_nil, if_true, setsS, set_fr]
theorem exs_wp {cl : Cl} {tb : Tabs} {c : C} {cs : Cs} {g : Gs} {b : Nat} {P : Nat → Fl → Prop} {E : Nat → Nat → Prop} (h : (ex cl tb c g).wp b (fun b' fl => (seq1 fl fun g' => exs cl tb cs g').wp b' P E) E) : (exs cl tb (.cons c cs) g).wp b P E := (Tr.wp_bind _ _).mpr h
theorem asg_wp {cl : Cl} {tb : Tabs} {e : E} {i : Nat} {cs : Cs} {Γ : Ga} {b : Nat} {P : Nat → Fl → Prop} {Er : Nat → Nat → Prop} (hf : e.fresh = false) (h : (ev cl tb e Γ).wp b (fun b' d => (exs cl tb cs (fr (Γ.set i (some d)))).wp b' P Er) Er) : (exs cl tb (.cons (.asg i e) cs) (fr Γ)).wp b P Er := by
  refine exs_wp ?_
  show Tr.wp ((ev cl tb e (vis e.ment (fr Γ))).bind _) b _ Er
  rw [Tr.wp_bind, vis_fr0]
  refine Tr.wp_mono ?_ (fun _ _ z => z) _ _ h
  intro b' d hd
  show (exs cl tb cs (List.set (clr _ _ (fr Γ)) i (some (d, ownB e d)))).wp b' P Er
  have ho : ownB e d = false := by
    unfold ownB
    rw [hf]
    rfl
  rw [ho, clr_fr, set_fr]
  exact hd
theorem ok_wp {cl : Cl} {tb : Tabs} {c : C} {cs : Cs} {g g' : Gs} {b : Nat} {P : Nat → Fl → Prop} {E : Nat → Nat → Prop} (h : ex cl tb c g = .ok (.next g')) (hr : (exs cl tb cs g').wp b P E) : (exs cl tb (.cons c cs) g).wp b P E := by
  rw [exs_next h]
  exact hr
theorem ex_asg {cl : Cl} {tb : Tabs} {e : E} {i : Nat} {Γ : Ga} {d : D} (hf : e.fresh = false) (h : ev cl tb e Γ = .ok d) : ex cl tb (.asg i e) (fr Γ) = .ok (.next (fr (Γ.set i (some d)))) := by
  have ho : ownB e d = false := by
    unfold ownB
    rw [hf]
    rfl
  show (ev cl tb e (vis e.ment (fr Γ))).bind _ = _
  rw [vis_fr0, h]
  show Tr.ok (Fl.next (List.set (clr _ _ (fr Γ)) i (some (d, ownB e d)))) = _
  rw [ho, clr_fr, set_fr]
/-- a loop's turns, with choices -/
theorem forL_wp {f : D → Gs → Tr Fl} {I : Nat → List D → Gs → Prop} {E : Nat → Nat → Prop} (H : ∀ b x r s, I b (x :: r) s → (f x s).wp b (fun b' fl => ∃ s', fl = .next s' ∧ I b' r s') E) : ∀ {l : List D} {b : Nat} {s : Gs}, I b l s → (forL f l s).wp b (fun b' fl => ∃ s', fl = .next s' ∧ I b' [] s') E
  | [], b, s, h => ⟨s, rfl, h⟩
  | a :: l, b, s, h => by
    show Tr.wp ((f a s).bind _) b _ E
    rw [Tr.wp_bind]
    refine Tr.wp_mono ?_ (fun _ _ z => z) _ _ (H b a l s h)
    rintro b' fl ⟨s', rfl, hs'⟩
    exact forL_wp H hs'
theorem rngL_len {n : Nat} : (rngL 0 (n : Int)).length = n := by simp [rngL]
theorem ev_wp_bind {α β : Type} {t : Tr α} {f : α → Tr β} {b : Nat} {P : Nat → β → Prop} {E : Nat → Nat → Prop} (h : t.wp b (fun b' a => (f a).wp b' P E) E) : (t.bind f).wp b P E := (Tr.wp_bind t b).mpr h
theorem rng1_wp {cl : Cl} {tb : Tabs} {e : E} {Γ : Ga} {b : Nat} {P : Nat → List D → Prop} {Er : Nat → Nat → Prop} (h : (ev cl tb e Γ).wp b (fun b' d => ∃ n : Nat, d = .int n ∧ n ≤ 1000000 ∧ P b' (rngL 0 n)) Er) : (evS cl tb (.rng1 e) Γ).wp b P Er := by
  have key : ∀ n : Nat, n ≤ 1000000 → (if -(2 ^ 62) ≤ (n : Int) ∧ (n : Int) < 2 ^ 62 then Tr.ok (rngL 0 (n : Int)) else .stuck) = .ok (rngL 0 (n : Int)) := by
    intro n hn
    have h2 : (n : Int) < 2 ^ 62 := by omega
    have h1 : -(2 ^ 62) ≤ (n : Int) := by omega
    exact if_pos ⟨h1, h2⟩
  have e : evS cl tb (.rng1 e) Γ = (ev cl tb e Γ).bind fun x => match x with
    | .int j => if -(2 ^ 62) ≤ j ∧ j < 2 ^ 62 then .ok (rngL 0 j) else .stuck
    | _ => .stuck := rfl
  rw [e]
  refine ev_wp_bind (Tr.wp_mono ?_ (fun _ _ z => z) _ _ h)
  intro b' d hd
  obtain ⟨n, hd1, hn, hp⟩ := hd
  have k2 := key n hn
  rw [hd1]
  generalize hq : (if -(2 ^ 62) ≤ (n : Int) ∧ (n : Int) < 2 ^ 62 then Tr.ok (rngL 0 (n : Int)) else .stuck) = q at k2
  subst k2
  simp only [hq]
  exact hp
end Mi
end
section

set_option linter.all false
set_option maxRecDepth 100000
set_option Elab.async false
set_option maxHeartbeats 2000000
/-! What the defs of words give. -/
namespace K44
open PySem PySem.Spec PyProof.Rows L2 Mi
open List
abbrev C (k : Nat) : Cl := Mi.call R.dfs R.c.tb R.pen k
theorem tb0 {c : Nat} : lookT (R.c.tb.getD 0 []) [c] = if isL c = true then some [inv c] else none := by
  have e : R.c.tb.getD 0 [] = [([65], [97]), ([66], [98]), ([67], [99]), ([68], [100]), ([97], [65]), ([98], [66]), ([99], [67]), ([100], [68])] := by rfl
  rw [e]
  by_cases h : isL c = true
  · rw [if_pos h]
    rw [isL_iff] at h
    have : c = 65 ∨ c = 66 ∨ c = 67 ∨ c = 68 ∨ c = 97 ∨ c = 98 ∨ c = 99 ∨ c = 100 := by omega
    rcases this with rfl | rfl | rfl | rfl | rfl | rfl | rfl | rfl <;> rfl
  · rw [if_neg h]
    rw [isL_iff] at h
    have h1 : 65 ≠ c := by omega
    have h2 : 66 ≠ c := by omega
    have h3 : 67 ≠ c := by omega
    have h4 : 68 ≠ c := by omega
    have h5 : 97 ≠ c := by omega
    have h6 : 98 ≠ c := by omega
    have h7 : 99 ≠ c := by omega
    have h8 : 100 ≠ c := by omega
    simp [lookT, find?, h1, h2, h3, h4, h5, h6, h7, h8]
theorem tb1 {c : Nat} : lookT (R.c.tb[0]?.getD []) [c] = if isL c = true then some [inv c] else none := by
  rw [← List.getD_eq_getElem?_getD]
  exact tb0
theorem letB_mem {w : S} (h : letB w = true) {c : Nat} (hc : c ∈ w) : isL c = true := by
  simp only [letB, all_eq_true] at h
  exact h c hc
/-- a level more -/
theorem lev {k j : Nat} (h : j + 1 ≤ k) : ∃ i, k = i + 1 ∧ j ≤ i := ⟨k - 1, by omega, by omega⟩
theorem c_is_word {k : Nat} (hk : 1 ≤ k) {w : S} (hw : letB w = true) (hl : w.length ≤ line) : C k 0 [.str w] = .ok (.bl true) := by
  obtain ⟨k, rfl, hj⟩ := lev hk
  show (exs (C k) R.c.tb d_is_word.body [some (.str w, false), none]).bind fin = _
  have h1 : ev (C k) R.c.tb (.lc (.it (.var 0)) (.nm 1) (.inTab false 0 (.var 1))) [some (.str w), none] = .ok (.lst (w.map fun _ => .bl true)) :=
    ev_lc (g := fun c => .str [c]) (by simp [evS, ev, Tr.bind, items]) hl (by
      intro c hc
      simp [ev, Tr.bind, asStr, tb1, letB_mem hw hc])
  unfold d_is_word
  rw [exs_ret (d := .bl true) (by simp [h1, ex, exs, e_var, e_cst, e_bin, e_neg, e_not, e_and, e_or, e_cmp, e_isN, e_isB, e_ife, e_tup, e_lst, e_dct0, e_dct1, e_call, e_bi, e_isi, e_ix, e_sl0, e_slT, e_slF, e_slB, e_rev, e_join, e_low, e_sortk, e_inTab, e_getTab, e_chain, evs, evS, vis, visAt, E.ment, Es.ment, Src.ment, Tr.bind, Tr.noErr, ty_str, ty_tup, ty_T, asBool, asStr, truth, Bi.run, BOp.run, COp.run, opAll_true, clr, clrAt, ownB, E.fresh, imm, immAll, items, opIx_T0, opIx_T1, opLen_str, opLen_lst, opLen_tup, opLen_dct, opLen_T, opSl, opPart, opNeg, seq1, setsS, isLD, plcs_len, immEl_kd, imm_T, opEq_T, opNe_T, opEq_str, opNe_str, opNe_int, opEq_int, opNe_bl])]
  rfl
theorem c_need_word {k : Nat} (hk : 2 ≤ k) {w : S} (hw : letB w = true) (hl : w.length ≤ 200) : C k 1 [.str w] = .ok .non := by
  obtain ⟨k, rfl, hj⟩ := lev hk
  show (exs (C k) R.c.tb d_need_word.body [some (.str w, false)]).bind fin = _
  have h0 := c_is_word hj hw (Nat.le_trans hl (by decide))
  have hn : ¬ (200 : Int) < w.length := by omega
  unfold d_need_word
  rw [exs_next (g' := [some (.str w, false)]) (by simp [h0, ex, exs, e_var, e_cst, e_bin, e_neg, e_not, e_and, e_or, e_cmp, e_isN, e_isB, e_ife, e_tup, e_lst, e_dct0, e_dct1, e_call, e_bi, e_isi, e_ix, e_sl0, e_slT, e_slF, e_slB, e_rev, e_join, e_low, e_sortk, e_inTab, e_getTab, e_chain, evs, evS, vis, visAt, E.ment, Es.ment, Src.ment, Tr.bind, Tr.noErr, ty_str, ty_tup, ty_T, asBool, asStr, truth, Bi.run, BOp.run, COp.run, opAll_true, clr, clrAt, ownB, E.fresh, imm, immAll, items, opIx_T0, opIx_T1, opLen_str, opLen_lst, opLen_tup, opLen_dct, opLen_T, opSl, opPart, opNeg, seq1, setsS, isLD, plcs_len, immEl_kd, imm_T, opEq_T, opNe_T, opEq_str, opNe_str, opNe_int, opEq_int, opNe_bl, opGt, hn])]
  rfl
theorem c_gone_on {k : Nat} (hk : 1 ≤ k) {p : S} {c : Nat} (hc : isL c = true) (hl : p.length + 1 ≤ line) : C k 2 [.str p, .str [c]] = .ok (.str (gop p c)) := by
  obtain ⟨k, rfl, hj⟩ := lev hk
  show (exs (C k) R.c.tb d_gone_on.body [some (.str p, false), some (.str [c], false)]).bind fin = _
  unfold d_gone_on
  rw [exs_ret (d := .str (gop p c)) (by
    by_cases h : p.drop (p.length - 1) = [inv c]
    · simp [ex, exs, e_var, e_cst, e_bin, e_neg, e_not, e_and, e_or, e_cmp, e_isN, e_isB, e_ife, e_tup, e_lst, e_dct0, e_dct1, e_call, e_bi, e_isi, e_ix, e_sl0, e_slT, e_slF, e_slB, e_rev, e_join, e_low, e_sortk, e_inTab, e_getTab, e_chain, evs, evS, vis, visAt, E.ment, Es.ment, Src.ment, Tr.bind, Tr.noErr, ty_str, ty_tup, ty_T, asBool, asStr, truth, Bi.run, BOp.run, COp.run, opAll_true, clr, clrAt, ownB, E.fresh, imm, immAll, items, opIx_T0, opIx_T1, opLen_str, opLen_lst, opLen_tup, opLen_dct, opLen_T, opSl, opPart, opNeg, seq1, setsS, isLD, plcs_len, immEl_kd, imm_T, opEq_T, opNe_T, opEq_str, opNe_str, opNe_int, opEq_int, opNe_bl, cut_last, cut_init, tb1, hc, opEq_str, h, gop]
    · simp [ex, exs, e_var, e_cst, e_bin, e_neg, e_not, e_and, e_or, e_cmp, e_isN, e_isB, e_ife, e_tup, e_lst, e_dct0, e_dct1, e_call, e_bi, e_isi, e_ix, e_sl0, e_slT, e_slF, e_slB, e_rev, e_join, e_low, e_sortk, e_inTab, e_getTab, e_chain, evs, evS, vis, visAt, E.ment, Es.ment, Src.ment, Tr.bind, Tr.noErr, ty_str, ty_tup, ty_T, asBool, asStr, truth, Bi.run, BOp.run, COp.run, opAll_true, clr, clrAt, ownB, E.fresh, imm, immAll, items, opIx_T0, opIx_T1, opLen_str, opLen_lst, opLen_tup, opLen_dct, opLen_T, opSl, opPart, opNeg, seq1, setsS, isLD, plcs_len, immEl_kd, imm_T, opEq_T, opNe_T, opEq_str, opNe_str, opNe_int, opEq_int, opNe_bl, cut_last, cut_init, tb1, hc, opEq_str, h, gop, opAdd, hl])]
  rfl
theorem gop_len {p : S} {c : Nat} : (gop p c).length ≤ p.length + 1 := by
  unfold gop
  split
  · rw [length_dropLast]
    omega
  · simp
end K44
end
section
set_option linter.all false
set_option maxRecDepth 100000
/-! The text of plain data (repr). -/
namespace Mi
open PySem
/-- signs below 128 -/
def sml (x : PySem.Str) : Prop := ∀ c ∈ x.cps.toList, c < 128
theorem sml_app {x y : PySem.Str} (hx : sml x) (hy : sml y) : sml (x ++ y) := by
  intro c hc
  have e : (x ++ y).cps.toList = x.cps.toList ++ y.cps.toList := by
    show (x.cps ++ y.cps).toList = _
    simp
  rw [e] at hc
  rcases List.mem_append.mp hc with h | h
  · exact hx c h
  · exact hy c h
theorem sml_join {sep : PySem.Str} (hs : sml sep) : ∀ {ts : List PySem.Str}, (∀ t ∈ ts, sml t) → sml (PySem.Str.join sep ts)
  | [], _ => by
    intro c hc
    have : (PySem.Str.join sep []).cps.toList = [] := rfl
    rw [this] at hc
    cases hc
  | [x], h => h x List.mem_cons_self
  | x :: y :: r, h => by
    show sml (x ++ sep ++ PySem.Str.join sep (y :: r))
    exact sml_app (sml_app (h x List.mem_cons_self) hs) (sml_join hs fun t ht => h t (List.mem_cons_of_mem _ ht))
theorem rc {c q : Nat} (h : isL c = true) (hq : q = 34 ∨ q = 39) : Builtin.Str.reprChar q c = [c] := by
  rw [isL_iff] at h
  have : c = 65 ∨ c = 66 ∨ c = 67 ∨ c = 68 ∨ c = 97 ∨ c = 98 ∨ c = 99 ∨ c = 100 := by omega
  rcases hq with rfl | rfl <;> rcases this with rfl | rfl | rfl | rfl | rfl | rfl | rfl | rfl <;> decide +kernel
/-- signs that are shown as they are -/
def okc (c : Nat) : Bool := decide (c < 128) && (decide (Builtin.Str.reprChar 34 c = [c]) && decide (Builtin.Str.reprChar 39 c = [c]))
def okw (w : S) : Bool := w.all okc
theorem okw_let {w : S} (h : letB w = true) : okw w = true := by
  simp only [okw, List.all_eq_true]
  intro c hc
  simp only [letB, List.all_eq_true] at h
  have h1 := h c hc
  have h2 : c < 128 := by
    rw [isL_iff] at h1
    omega
  simp only [okc, Bool.and_eq_true, decide_eq_true_eq]
  exact ⟨h2, rc h1 (.inl rfl), rc h1 (.inr rfl)⟩
theorem okw_app {x y : S} : okw (x ++ y) = (okw x && okw y) := by simp [okw]
theorem rcO {c q : Nat} (h : okc c = true) (hq : q = 34 ∨ q = 39) : Builtin.Str.reprChar q c = [c] := by
  simp only [okc, Bool.and_eq_true, decide_eq_true_eq] at h
  rcases hq with rfl | rfl
  · exact h.2.1
  · exact h.2.2
theorem rc_fold {q : Nat} (hq : q = 34 ∨ q = 39) : ∀ {w : S} {acc : Array Nat}, okw w = true → w.foldl (fun out c => out ++ (Builtin.Str.reprChar q c).toArray) acc = acc ++ w.toArray
  | [], acc, _ => by simp
  | c :: w, acc, h => by
    simp only [okw, List.all_cons, Bool.and_eq_true] at h
    rw [List.foldl_cons, rcO h.1 hq, rc_fold hq (w := w) h.2]
    simp
theorem repr_word {w : S} (h : okw w = true) : ∃ q, (q = 34 ∨ q = 39) ∧ (reprText ⟨w.toArray⟩).cps.toList = q :: w ++ [q] := by
  have hq : reprQuote ⟨w.toArray⟩ = 34 ∨ reprQuote ⟨w.toArray⟩ = 39 := by
    unfold reprQuote
    split
    · exact .inl rfl
    · exact .inr rfl
  refine ⟨reprQuote ⟨w.toArray⟩, hq, ?_⟩
  unfold reprText
  have e : (Array.foldl (fun out c => out ++ (Builtin.Str.reprChar (reprQuote ⟨w.toArray⟩) c).toArray) #[reprQuote ⟨w.toArray⟩] w.toArray) = #[reprQuote ⟨w.toArray⟩] ++ w.toArray := by
    rw [← Array.foldl_toList]
    exact rc_fold hq h
  dsimp only
  rw [e]
  simp
theorem int_ok {n : Nat} (h : n < 2 ^ 200) : sml (Str.ofString (toString (n : Int))) ∧ (Str.ofString (toString (n : Int))).length ≤ 300 ∧ n.log2 < 1920 := by
  have e : toString (n : Int) = Nat.repr n := rfl
  rw [e, Str.ofString_eq_toList]
  refine ⟨?_, ?_, ?_⟩
  · intro c hc
    simp only [List.mem_map] at hc
    obtain ⟨ch, h1, rfl⟩ := hc
    have h2 : ch.isDigit = true := Nat.isDigit_of_mem_toDigits (b := 10) (n := n) (by decide) (by decide) (by simpa [Nat.repr] using h1)
    have := PyProof.Rows.digit_range h2
    omega
  · show ((Nat.repr n).toList.map Char.toNat).toArray.size ≤ 300
    rw [List.size_toArray, List.length_map, String.length_toList]
    exact Nat.le_trans (nat_repr_length_le (by decide) h) (by decide)
  · by_cases h0 : n = 0
    · subst h0
      decide
    · have := (Nat.log2_lt h0).mpr h
      omega
mutual
/-- words, None, True, False, numbers, and what is put together of these -/
def nice : D → Bool
  | .non => true
  | .int i => decide (0 ≤ i) && decide (i < 2 ^ 200)
  | .bl _ => true
  | .str x => okw x
  | .tup xs => niceAll xs
  | .lst xs => niceAll xs
  | _ => false
def niceAll : List D → Bool
  | [] => true
  | x :: xs => nice x && niceAll xs
end
mutual
def wg : D → Nat
  | .str x => x.length + 2
  | .int _ => 300
  | .tup xs => wgAll xs + 3
  | .lst xs => wgAll xs + 3
  | _ => 5
def wgAll : List D → Nat
  | [] => 0
  | x :: xs => wg x + 2 + wgAll xs
end
mutual
theorem nice_data : ∀ d : D, nice d = true → isData d = true
  | .non, _ => rfl
  | .bl _, _ => rfl
  | .str _, _ => rfl
  | .tup xs, h => nice_dataAll xs h
  | .lst xs, h => nice_dataAll xs h
  | .int _, _ => rfl
  | .dct _, h => by cases h
  | .pen, h => by cases h
  | .exc _, h => by cases h
theorem nice_dataAll : ∀ ds : List D, niceAll ds = true → dataAll ds = true
  | [], _ => rfl
  | x :: xs, h => by
    have h' := Bool.and_eq_true_iff.mp h
    show (isData x && dataAll xs) = true
    rw [nice_data x h'.1, nice_dataAll xs h'.2]
    rfl
end
theorem sml_c {x : PySem.Str} (h : x.cps.toList.all (fun c => decide (c < 128)) = true) : sml x := by
  intro c hc
  rw [List.all_eq_true] at h
  exact of_decide_eq_true (h c hc)
mutual
theorem shown_ok : ∀ d : D, nice d = true → sml (py d).shown ∧ (py d).shown.length ≤ wg d ∧ (py d).showable = true ∧ (py d).hasDict = false
  | .non, _ => ⟨sml_c (by decide +kernel), by show ("None" : PySem.Str).length ≤ 5; decide +kernel, rfl, rfl⟩
  | .bl b, _ => by
    refine ⟨sml_c ?_, ?_, rfl, rfl⟩
    · cases b <;> decide +kernel
    · show (py (.bl b)).shown.length ≤ 5
      cases b <;> decide +kernel
  | .str w, h => by
    obtain ⟨q, hq, e⟩ := repr_word (w := w) h
    have e2 : (py (.str w)).shown = reprText ⟨w.toArray⟩ := PyData.shown_str _
    refine ⟨?_, ?_, rfl, rfl⟩
    · intro c hc
      rw [e2, e] at hc
      have hw : ∀ c ∈ w, c < 128 := fun c hc => by
        have h' : okw w = true := h
        simp only [okw, List.all_eq_true] at h'
        have := h' c hc
        simp only [okc, Bool.and_eq_true, decide_eq_true_eq] at this
        exact this.1
      simp only [List.cons_append, List.mem_cons, List.mem_append, List.not_mem_nil, or_false] at hc
      rcases hc with hc | hc | hc
      · rcases hq with hq | hq <;> omega
      · exact hw c hc
      · rcases hq with hq | hq <;> omega
    · rw [e2]
      show (reprText ⟨w.toArray⟩).cps.size ≤ w.length + 2
      rw [← Array.length_toList, e]
      simp
  | .tup xs, h => by
    obtain ⟨h1, h2, h3, h4⟩ := shownAll_ok xs h
    have e : (py (.tup xs)).shown = tupleText (PyData.shownAll (pyAll xs)) := by
      show (PyData.tuple (pyAll xs)).shown = _
      simp only [PyData.shown]
    refine ⟨?_, ?_, h3, h4⟩
    · rw [e]
      unfold tupleText
      refine sml_app (sml_app (sml_c (by decide +kernel)) (sml_join (sml_c (by decide +kernel)) h1)) ?_
      split <;> exact sml_c (by decide +kernel)
    · rw [e]
      have := tupleText_len_le (PyData.shownAll (pyAll xs))
      show _ ≤ wgAll xs + 3
      omega
  | .lst xs, h => by
    obtain ⟨h1, h2, h3, h4⟩ := shownAll_ok xs h
    have e : (py (.lst xs)).shown = listText (PyData.shownAll (pyAll xs)) := by
      show (PyData.list (pyAll xs)).shown = _
      simp only [PyData.shown]
    refine ⟨?_, ?_, h3, h4⟩
    · rw [e, listText_eq_join]
      exact sml_app (sml_app (sml_c (by decide +kernel)) (sml_join (sml_c (by decide +kernel)) h1)) (sml_c (by decide +kernel))
    · rw [e]
      have := listText_len_le (PyData.shownAll (pyAll xs))
      show _ ≤ wgAll xs + 3
      omega
  | .int i, h => by
    have h' := Bool.and_eq_true_iff.mp h
    have h1 : 0 ≤ i := of_decide_eq_true h'.1
    have h2 : i < 2 ^ 200 := of_decide_eq_true h'.2
    obtain ⟨n, rfl⟩ := Int.eq_ofNat_of_zero_le h1
    obtain ⟨a1, a2, a3⟩ := int_ok (n := n) (by exact_mod_cast h2)
    exact ⟨a1, a2, decide_eq_true a3, rfl⟩
  | .dct _, h => by cases h
  | .pen, h => by cases h
  | .exc _, h => by cases h
theorem shownAll_ok : ∀ ds : List D, niceAll ds = true → (∀ t ∈ PyData.shownAll (pyAll ds), sml t) ∧ ((PyData.shownAll (pyAll ds)).map (·.length)).sum + 2 * (PyData.shownAll (pyAll ds)).length ≤ wgAll ds ∧ PyData.showableAll (pyAll ds) = true ∧ PyData.hasDictAll (pyAll ds) = false
  | [], _ => ⟨(by intro t h; cases h), Nat.le_refl _, rfl, rfl⟩
  | x :: xs, h => by
    have h' := Bool.and_eq_true_iff.mp h
    obtain ⟨a1, a2, a3, a4⟩ := shown_ok x h'.1
    obtain ⟨b1, b2, b3, b4⟩ := shownAll_ok xs h'.2
    have e : PyData.shownAll (pyAll (x :: xs)) = (py x).shown :: PyData.shownAll (pyAll xs) := PyData.shownAll_cons _ _
    rw [e]
    refine ⟨?_, ?_, ?_, ?_⟩
    · intro t ht
      rcases List.mem_cons.mp ht with rfl | ht
      · exact a1
      · exact b1 t ht
    · rw [List.map_cons, List.sum_cons, List.length_cons]
      show _ ≤ wg x + 2 + wgAll xs
      omega
    · show ((py x).showable && PyData.showableAll (pyAll xs)) = true
      rw [a3, b3]
      rfl
    · show ((py x).hasDict || PyData.hasDictAll (pyAll xs)) = false
      rw [a4, b4]
      rfl
end
theorem opRepr_nice {d : D} (h : nice d = true) (hd : depth d ≤ 60) (hw : wg d ≤ line) : ∃ s, opRepr d = .ok (.str s) := by
  obtain ⟨h1, h2, h3, h4⟩ := shown_ok d h
  refine ⟨_, if_pos ⟨nice_data d h, by rw [depth_py d (nice_data d h)]; exact hd, h3, h4, Nat.le_trans h2 hw, ?_⟩⟩
  rw [List.all_eq_true]
  intro c hc
  have := h1 c hc
  exact decide_eq_true (by omega)
theorem niceAll_plcs {A : List S} (h : ∀ p, p ∈ A → letB p = true) : niceAll (plcs A) = true := by
  induction A with
  | nil => rfl
  | cons a A ih =>
    show (okw a && niceAll (plcs A)) = true
    rw [okw_let (h a List.mem_cons_self), ih fun p hp => h p (List.mem_cons_of_mem _ hp)]
    rfl
theorem wgAll_plcs {A : List S} {n : Nat} (h : ∀ p, p ∈ A → p.length ≤ n) : wgAll (plcs A) ≤ A.length * (n + 4) := by
  induction A with
  | nil => exact Nat.zero_le _
  | cons a A ih =>
    have h1 := ih fun p hp => h p (List.mem_cons_of_mem _ hp)
    have h2 := h a List.mem_cons_self
    show a.length + 2 + 2 + wgAll (plcs A) ≤ (A.length + 1) * (n + 4)
    rw [Nat.succ_mul]
    omega
theorem repr_T {n : Nat} {A : List S} {e : S} (h : Vd n A e) (hn : n ≤ 500) : ∃ s, opRepr (T A e) = .ok (.str s) := by
  refine opRepr_nice ?_ ?_ ?_
  · show (niceAll (plcs A) && (okw e && true)) = true
    rw [niceAll_plcs fun p hp => (h.pl p hp).1, okw_let (h.pl e h.en).1]
    rfl
  · exact depth_T
  · show (wgAll (plcs A) + 3) + 2 + (e.length + 2 + 2 + 0) + 3 ≤ line
    have h1 := wgAll_plcs h.wid
    have h2 := h.len
    have h3 := h.wid e h.en
    have h4 : A.length * (n + 4) ≤ 500 * 504 := Nat.mul_le_mul (by omega) (by omega)
    have hl : line = 16777216 := rfl
    omega
theorem repr_str {w : S} (h : letB w = true) (hl : w.length ≤ 1000000) : ∃ s, opRepr (.str w) = .ok (.str s) := by
  refine opRepr_nice (okw_let h) (Nat.zero_le _) ?_
  have e : line = 16777216 := rfl
  show w.length + 2 ≤ line
  omega
theorem repr_bl {b : Bool} : ∃ s, opRepr (.bl b) = .ok (.str s) := opRepr_nice rfl (Nat.zero_le _) (show 5 ≤ line by decide)
theorem repr_non : ∃ s, opRepr .non = .ok (.str s) := opRepr_nice rfl (Nat.zero_le _) (show 5 ≤ line by decide)
end Mi
end
section
set_option linter.all false
set_option maxRecDepth 100000
/-! Walks in a tread: ways on from a place, that never turn back. -/
namespace Mi
open List
def LET : S := [65, 66, 67, 68, 97, 98, 99, 100]
theorem LET_isL {c : Nat} (h : c ∈ LET) : isL c = true := by
  simp only [LET, mem_cons, not_mem_nil, or_false] at h
  rcases h with rfl | rfl | rfl | rfl | rfl | rfl | rfl | rfl <;> rfl
/-- what `branches` tells -/
def brs (K : List S) (p b : S) : List (Nat × S) := LET.filterMap fun c => if [c] ≠ b ∧ gop p c ∈ K then some (c, gop p c) else none
def barOf (u : S) : S := match u.getLast? with
  | none => []
  | some c => [inv c]
theorem barOf_nil : barOf [] = [] := rfl
theorem barOf_snoc {u : S} {c : Nat} : barOf (u ++ [c]) = [inv c] := by simp [barOf]
def chl (K : List S) (p u : S) : List Nat := LET.filter fun c => decide ([c] ≠ barOf u ∧ mul p (u ++ [c]) ∈ K)
theorem mem_chl {K : List S} {p u : S} {c : Nat} : c ∈ chl K p u ↔ c ∈ LET ∧ [c] ≠ barOf u ∧ mul p (u ++ [c]) ∈ K := by simp [chl]
theorem brs_chl {K : List S} {p u : S} : brs K (mul p u) (barOf u) = (chl K p u).map fun c => (c, mul p (u ++ [c])) := by
  unfold brs chl
  generalize LET = l
  induction l with
  | nil => rfl
  | cons c l ih =>
    rw [filterMap_cons, filter_cons, mul_snoc]
    by_cases h : [c] ≠ barOf u ∧ gop (mul p u) c ∈ K
    · rw [if_pos h, decide_eq_true h]
      simp only [if_true, map_cons]
      rw [ih, mul_snoc]
    · rw [if_neg h, decide_eq_false h]
      simp only [Bool.false_eq_true, if_false]
      exact ih
/-- a way on from p in K -/
def PV (K : List S) (p u : S) : Prop := isP u ∧ ∀ i, mul p (u.take i) ∈ K
theorem PV.nil {K : List S} {p : S} (h : p ∈ K) : PV K p [] := ⟨isP_nil, fun i => by rw [take_nil, mul_nil]; exact h⟩
theorem isP_snoc {u : S} {c : Nat} (h : isP u) (hc : isL c = true) (hb : [c] ≠ barOf u) : isP (u ++ [c]) := by
  refine ⟨by rw [letB_app, h.1]; simp [letB, hc], ?_⟩
  rw [reverse_append]
  show redB (c :: u.reverse) = true
  rcases List.eq_nil_or_concat u with e | ⟨v, d, e⟩
  · subst e
    rfl
  · have e2 : u = v ++ [d] := by simpa using e
    subst e2
    have hr := h.2
    rw [reverse_append] at hr ⊢
    show (decide (d ≠ inv c) && redB (d :: v.reverse)) = true
    have h2 : redB (d :: v.reverse) = true := hr
    rw [h2, Bool.and_true, decide_eq_true_iff]
    intro e3
    apply hb
    rw [barOf_snoc, e3, inv_inv hc]
theorem PV.snoc {K : List S} {p u : S} {c : Nat} (h : PV K p u) (hc : c ∈ chl K p u) : PV K p (u ++ [c]) := by
  rw [mem_chl] at hc
  refine ⟨isP_snoc h.1 (LET_isL hc.1) hc.2.1, fun i => ?_⟩
  by_cases hi : i ≤ u.length
  · rw [take_append_of_le_length hi]
    exact h.2 i
  · rw [take_of_length_le (by simp; omega)]
    exact hc.2.2
theorem PV.mem {K : List S} {p u : S} (h : PV K p u) : mul p u ∈ K := by
  have := h.2 u.length
  rwa [take_length] at this
theorem nodup_len {α : Type} [DecidableEq α] : ∀ {l D : List α}, l.Nodup → (∀ x, x ∈ l → x ∈ D) → l.length ≤ D.length
  | [], _, _, _ => Nat.zero_le _
  | a :: l, D, h, hs => by
    rw [nodup_cons] at h
    have ha := hs a mem_cons_self
    have ih := nodup_len (l := l) (D := D.erase a) h.2 fun x hx => (mem_erase_of_ne (fun e => h.1 (by rw [← e]; exact hx))).mpr (hs x (mem_cons_of_mem _ hx))
    rw [length_erase_of_mem ha] at ih
    have : 0 < D.length := length_pos_iff.mpr (ne_nil_of_mem ha)
    rw [length_cons]
    omega
/-- different ways lead to different places -/
theorem ways_len {K : List S} {p : S} (hp : isP p) {l : List S} (hn : l.Nodup) (hl : ∀ u, u ∈ l → PV K p u) : l.length ≤ K.length := by
  have h1 := map_mul_nd hp hn fun x hx => (hl x hx).1
  have h2 := nodup_len h1 (D := K) fun y hy => by
    obtain ⟨u, hu, rfl⟩ := mem_map.mp hy
    exact (hl u hu).mem
  rwa [length_map] at h2
theorem PV.take {K : List S} {p u : S} (h : PV K p u) (n : Nat) : PV K p (u.take n) := ⟨isP_take h.1 n, fun i => by rw [take_take]; exact h.2 _⟩
theorem PV.len {K : List S} {p u : S} (hp : isP p) (h : PV K p u) : u.length + 1 ≤ K.length := by
  have h1 : ((range (u.length + 1)).map fun i => u.take i).Nodup := by
    rw [List.Nodup, pairwise_map]
    refine Pairwise.imp_of_mem ?_ (nodup_range (n := u.length + 1))
    intro i j hi hj hij e
    apply hij
    rw [mem_range] at hi hj
    have := congrArg length e
    rw [length_take, length_take] at this
    omega
  have h2 := ways_len hp h1 fun v hv => by
    obtain ⟨i, _, rfl⟩ := mem_map.mp hv
    exact h.take i
  simpa using h2
/-- all ways on behind u, up to m letters more -/
def desc (K : List S) (p : S) : Nat → S → List S
  | 0, _ => []
  | m + 1, u => (chl K p u).flatMap fun c => (u ++ [c]) :: desc K p m (u ++ [c])
theorem desc_mem {K : List S} {p : S} : ∀ {m : Nat} {u v : S}, v ∈ desc K p m u → PV K p u → PV K p v ∧ ∃ c t, v = u ++ c :: t
  | 0, u, v, h, _ => by cases h
  | m + 1, u, v, h, hu => by
    obtain ⟨c, hc, hv⟩ := mem_flatMap.mp h
    have h1 := hu.snoc hc
    rcases mem_cons.mp hv with rfl | hv
    · exact ⟨h1, c, [], rfl⟩
    · obtain ⟨h2, d, t, e⟩ := desc_mem hv h1
      exact ⟨h2, c, d :: t, by rw [e, append_assoc]; rfl⟩
theorem LET_nd : LET.Nodup := by decide
theorem chl_nd {K : List S} {p u : S} : (chl K p u).Nodup := Pairwise.filter _ LET_nd
theorem desc_nd {K : List S} {p : S} : ∀ {m : Nat} {u : S}, PV K p u → (desc K p m u).Nodup
  | 0, _, _ => nodup_nil
  | m + 1, u, hu => by
    show Pairwise _ _
    unfold desc
    rw [pairwise_flatMap]
    refine ⟨fun c hc => ?_, ?_⟩
    · have h1 := hu.snoc hc
      refine nodup_cons.mpr ⟨fun h => ?_, desc_nd h1⟩
      obtain ⟨_, d, t, e⟩ := desc_mem h h1
      have := congrArg length e
      simp at this
    · refine Pairwise.imp_of_mem ?_ (chl_nd (K := K) (p := p) (u := u))
      intro c d hc hd hne x hx y hy e
      have key : ∀ c, c ∈ chl K p u → ∀ x, x ∈ (u ++ [c]) :: desc K p m (u ++ [c]) → ∃ t, x = u ++ c :: t := by
        intro c hc x hx
        rcases mem_cons.mp hx with rfl | hx
        · exact ⟨[], rfl⟩
        · obtain ⟨_, d, t, e⟩ := desc_mem hx (hu.snoc hc)
          exact ⟨d :: t, by rw [e, append_assoc]; rfl⟩
      obtain ⟨t1, e1⟩ := key c hc x hx
      obtain ⟨t2, e2⟩ := key d hd y hy
      rw [e, e2] at e1
      have := append_cancel_left e1
      injection this with h1 _
      exact hne h1.symm
theorem desc_len {K : List S} {p : S} (hp : isP p) {m : Nat} {u : S} (hu : PV K p u) : (desc K p m u).length ≤ K.length :=
  ways_len hp (desc_nd hu) fun v hv => (desc_mem hv hu).1
/-- U: the ways that are done, V: those that wait -/
structure BF (K : List S) (p : S) (U V : List S) : Prop where
  nd : (U ++ V).Nodup
  pv : ∀ u, u ∈ U ++ V → PV K p u
  par : ∀ u, u ∈ U ++ V → u = [] ∨ u.dropLast ∈ U
theorem BF.nil {K : List S} {p : S} (h : p ∈ K) : BF K p [] [[]] := ⟨by simp, by simp; exact PV.nil h, by simp⟩
theorem BF.len {K : List S} {p : S} (hp : isP p) {U V : List S} (b : BF K p U V) : (U ++ V).length ≤ K.length := ways_len hp b.nd b.pv
theorem BF.step {K : List S} {p : S} {U V : List S} {u : S} (b : BF K p U (u :: V)) : BF K p (U ++ [u]) (V ++ (chl K p u).map fun c => u ++ [c]) := by
  have hu : PV K p u := b.pv u (by simp)
  have e : U ++ [u] ++ (V ++ (chl K p u).map fun c => u ++ [c]) = (U ++ u :: V) ++ (chl K p u).map fun c => u ++ [c] := by simp
  have huU : u ∉ U := by
    have := b.nd
    rw [nodup_append] at this
    exact fun h => this.2.2 u h u mem_cons_self rfl
  refine ⟨?_, ?_, ?_⟩
  · rw [e, nodup_append]
    refine ⟨b.nd, ?_, ?_⟩
    · rw [List.Nodup, pairwise_map]
      refine Pairwise.imp ?_ (chl_nd (K := K) (p := p) (u := u))
      intro c d hcd h
      have := append_cancel_left h
      injection this with h1 _
      exact hcd h1
    · intro x hx y hy hxy
      subst hxy
      obtain ⟨c, _, e2⟩ := mem_map.mp hy
      rcases b.par x hx with h | h
      · rw [h] at e2
        simp at e2
      · rw [← e2, dropLast_concat] at h
        exact huU h
  · intro x hx
    rw [e] at hx
    rcases mem_append.mp hx with h | h
    · exact b.pv x h
    · obtain ⟨c, hc, rfl⟩ := mem_map.mp h
      exact hu.snoc hc
  · intro x hx
    rw [e] at hx
    rcases mem_append.mp hx with h | h
    · rcases b.par x h with h | h
      · exact .inl h
      · exact .inr (mem_append.mpr (.inl h))
    · obtain ⟨c, hc, rfl⟩ := mem_map.mp h
      rw [dropLast_concat]
      exact .inr (mem_append.mpr (.inr (mem_singleton.mpr rfl)))
/-! ### a while loop -/
theorem whlL_ex {t : Gs → Tr Bool} {f : Gs → Tr Fl} {P : Nat → Gs → Prop} {Q : Gs → Prop} (H : ∀ m s, P m s → (t s = .ok false ∧ Q s) ∨ (t s = .ok true ∧ ∃ s' m', m' < m ∧ f s = .ok (.next s') ∧ P m' s')) : ∀ {n m : Nat} {s : Gs}, m < n → P m s → ∃ s', whlL t f n s = .ok (.next s') ∧ Q s'
  | 0, m, s, h, _ => by omega
  | n + 1, m, s, h, hp => by
    rcases H m s hp with ⟨h1, h2⟩ | ⟨h1, s', m', h2, h3, h4⟩
    · refine ⟨s, ?_, h2⟩
      show (t s).bind _ = _
      rw [h1]
      rfl
    · obtain ⟨s2, h5, h6⟩ := whlL_ex H (n := n) (m := m') (s := s') (by omega) h4
      refine ⟨s2, ?_, h6⟩
      show (t s).bind _ = _
      rw [h1]
      show (f s).bind _ = _
      rw [h3]
      exact h5
theorem ex_whl {cl : Cl} {tb : Tabs} {t : E} {b : Cs} {g : Gs} : ex cl tb (.whl t b) g = whlL (fun g => (ev cl tb t (vis t.ment g)).bind truth) (fun g => exs cl tb b g) most g := by
  unfold ex
  rfl
def fmStep {α β : Type} (c : α → Option β) (acc : List β) (x : α) : List β := match c x with
  | some y => acc ++ [y]
  | none => acc
theorem fmStep_fold {α β : Type} {c : α → Option β} : ∀ {l : List α} {acc : List β}, l.foldl (fmStep c) acc = acc ++ l.filterMap c
  | [], acc => by simp
  | x :: l, acc => by
    rw [foldl_cons, fmStep_fold, filterMap_cons]
    unfold fmStep
    cases c x <;> simp
theorem ok_of_wp {α : Type} {v : α} : ∀ {t : Tr α}, t.wp 0 (fun _ a => a = v) (fun _ _ => False) → t = .ok v
  | .ok a, h => congrArg Tr.ok h
  | .err _, h => h.elim
  | .stuck, h => h.elim
  | .take _ _, h => absurd h.2.1 (Nat.lt_irrefl 0)
theorem rng1_ok {cl : Cl} {tb : Tabs} {e : E} {Γ : Ga} {n : Nat} (h : ev cl tb e Γ = .ok (.int n)) (hn : n ≤ 1000000) : evS cl tb (.rng1 e) Γ = .ok (rngL 0 n) := by
  refine ok_of_wp (rng1_wp ?_)
  rw [h]
  exact ⟨n, rfl, hn, rfl⟩
theorem putAllO_kd {f : D → Tr (Option (S × D))} {b : S → Bool} : ∀ {l L : List S}, L.length + l.length ≤ line → (∀ x, x ∈ l → f (.str x) = .ok (if b x = true then some (x, .bl true) else none)) → putAllO f (plcs l) (kd L) = .ok (kd (insAll L (l.filter b)))
  | [], L, _, _ => rfl
  | a :: l, L, hl, H => by
    rw [length_cons] at hl
    show (f (.str a)).bind _ = _
    rw [H a mem_cons_self]
    cases hb : b a with
    | true =>
      have h2 := ins_len (l := L) (k := a)
      have ih := putAllO_kd (l := l) (L := ins L a) (by omega) fun x hx => H x (mem_cons_of_mem _ hx)
      show (if (kd L).length < line then putAllO f (plcs l) (put (kd L) a (.bl true)) else .stuck) = _
      rw [if_pos (by rw [kd_len]; omega), put_kd, ih, filter_cons, if_pos hb]
      rfl
    | false =>
      have ih := putAllO_kd (l := l) (L := L) (by omega) fun x hx => H x (mem_cons_of_mem _ hx)
      show putAllO f (plcs l) (kd L) = _
      rw [ih, filter_cons, if_neg (by rw [hb]; exact Bool.false_ne_true)]
/-- {i: True for i in s if c} -/
theorem ev_dcIf {cl : Cl} {tb : Tabs} {s : Src} {i : Nat} {c : E} {Γ : Ga} {A : List S} {b : S → Bool} (hs : evS cl tb s Γ = .ok (plcs A)) (hl : A.length ≤ line) (hi : i < Γ.length) (Hc : ∀ x, x ∈ A → ev cl tb c (Γ.set i (some (.str x))) = .ok (.bl (b x))) : ev cl tb (.dcIf s (.nm i) c (.var i) (.cst (.bl true))) Γ = .ok (.dct (kd (insAll [] (A.filter b)))) := by
  have e1 : ev cl tb (.dcIf s (.nm i) c (.var i) (.cst (.bl true))) Γ = (evS cl tb s Γ).bind fun xs => (putAllO (fun d => match bindTg d (.nm i) Γ with
    | some Γ1 => (ev cl tb c Γ1).noErr.bind fun t => (truth t).bind fun k' => match k' with
      | true => (ev cl tb (.var i) Γ1).noErr.bind fun x => (asStr x).bind fun z => (ev cl tb (.cst (.bl true)) Γ1).noErr.bind fun y => .ok (some (z, y))
      | false => .ok none
    | none => .stuck) xs []).bind fun kvs => .ok (.dct kvs) := rfl
  rw [e1, hs]
  have := putAllO_kd (f := fun d => match bindTg d (.nm i) Γ with
    | some Γ1 => (ev cl tb c Γ1).noErr.bind fun t => (truth t).bind fun k' => match k' with
      | true => (ev cl tb (.var i) Γ1).noErr.bind fun x => (asStr x).bind fun z => (ev cl tb (.cst (.bl true)) Γ1).noErr.bind fun y => .ok (some (z, y))
      | false => .ok none
    | none => .stuck) (b := b) (l := A) (L := []) (by simpa using hl) (by
      intro x hx
      have h1 : ev cl tb (.var i) (Γ.set i (some (.str x))) = .ok (.str x) := by simp [ev, hi]
      have h2 : ev cl tb (.cst (.bl true)) (Γ.set i (some (.str x))) = .ok (.bl true) := by simp [ev]
      simp only [bindTg, Hc x hx, Tr.noErr, Tr.ok_bind, truth]
      cases b x with
      | false => rfl
      | true =>
        simp only [h1, h2, Tr.noErr, Tr.ok_bind, asStr]
        rfl)
  exact congrArg (fun t => t.bind fun kvs => Tr.ok (D.dct kvs)) this
theorem mul2_ok {x : Int} : opMul (.int 2) (.int x) = .ok (.int (2 * x)) := by
  have h : (-(2 ^ 64) < (2 : Int) ∧ (2 : Int) < 2 ^ 64) ∨ (-(2 ^ 64) < x ∧ x < 2 ^ 64) := .inl ⟨by omega, by omega⟩
  simp only [opMul, if_pos h]
end Mi
end
section
set_option linter.all false
set_option maxRecDepth 100000
set_option Elab.async false
/-! Treads as pairs: products, backs, powers, the order. -/
namespace Mi
open List
abbrev Tw := List S × S
theorem tD_ex : ∃ f : Tw → D, ∀ a, f a = T a.1 a.2 := ⟨fun a => T a.1 a.2, fun _ => rfl⟩
/-- a pair as the tread's data; its form is known by tD_eq alone -/
noncomputable def tD : Tw → D := Classical.choose tD_ex
theorem tD_eq (a : Tw) : tD a = T a.1 a.2 := Classical.choose_spec tD_ex a
def Vw (n : Nat) (a : Tw) : Prop := Vd n a.1 a.2
def mT (a b : Tw) : Tw := (su (a.1 ++ b.1.map (mul a.2)), mul a.2 b.2)
def bT (a : Tw) : Tw := (su (a.1.map (mul (bk a.2))), bk a.2)
def sT (a : Tw) : Tw := (a.1, [])
def oT (a b : Tw) : Tw := (su (a.1 ++ b.1), a.2)
def cT (a b : Tw) : Tw := (cmn a.1 b.1, a.2)
def tOne : Tw := ([[]], [])
def aT (a b : Tw) : Bool := decide (a.2 = b.2) && b.1.all fun x => decide (x ∈ a.1)
def pT (a : Tw) : Nat → Tw
  | 0 => tOne
  | n + 1 => mT (pT a n) a
def nT (a : Tw) (p : S) : Tw := (su (a.1.map (mul (bk p))), mul (bk p) a.2)
section
variable {n m q : Nat} {a b c : Tw} {x y p : S}
theorem Vw.pl (h : Vw n a) (hx : x ∈ a.1) : isP x := Vd.pl h x hx
theorem Vw.en (h : Vw n a) : a.2 ∈ a.1 := Vd.en h
theorem Vw.pe (h : Vw n a) : isP a.2 := h.pl h.en
theorem Vw.nil (h : Vw n a) : [] ∈ a.1 := Vd.nil h
theorem Vw.mono (h : Vw n a) (hm : n ≤ m) : Vw m a := Vd.mono h hm
theorem Vw.su (h : Vw n a) : su a.1 = a.1 := Vd.su h
theorem Vw.mT (h : Vw n a) (k : Vw m b) : Vw (n + m) (mT a b) := vd_mul h k
theorem Vw.bT (h : Vw n a) : Vw (n + n) (bT a) := by
  have q := vd_seen h h.en
  rw [bk_mul_self h.pe] at q
  exact ⟨q.nd, q.srt, q.pl, q.pre, bk_mem h, q.len, q.wid⟩
theorem Vw.sT (h : Vw n a) : Vw n (sT a) := Vd.spare h
theorem Vw.oT (h : Vw n a) (k : Vw m b) (e : a.2 = b.2) : Vw (n + m) (oT a b) := by
  have k' : Vd m b.1 a.2 := by rw [e]; exact k
  exact vd_over h k'
theorem Vw.cT (h : Vw n a) (k : Vw m b) (e : a.2 = b.2) : Vw n (cT a b) := by
  have k' : Vd m b.1 a.2 := by rw [e]; exact k
  exact vd_cmn h k'
theorem Vw.nT (h : Vw n a) (hp : p ∈ a.1) : Vw (n + n) (nT a p) := vd_seen h hp
theorem v_one : Vw 1 tOne where
  nd := by simp [tOne]
  srt := mergeSort_of_pairwise (by simp [tOne])
  pl p h := by simp [tOne] at h; rw [h]; exact isP_nil
  pre p h k := by simp [tOne] at h; rw [h]; simp [tOne]
  en := by simp [tOne]
  len := by simp [tOne]
  wid p h := by simp [tOne] at h; rw [h]; simp
/-- treads of the same places, the same end -/
theorem tt_eq (h : Vw n a) (k : Vw m b) (hx : ∀ x, x ∈ a.1 ↔ x ∈ b.1) (he : a.2 = b.2) : a = b := by
  refine Prod.ext ?_ he
  rw [← h.su, ← k.su]
  exact su_eq hx
theorem mem_mT : x ∈ (Mi.mT a b).1 ↔ x ∈ a.1 ∨ ∃ y, y ∈ b.1 ∧ mul a.2 y = x := by simp [Mi.mT, mem_su]
theorem mem_bT : x ∈ (Mi.bT a).1 ↔ ∃ y, y ∈ a.1 ∧ mul (bk a.2) y = x := by simp [Mi.bT, mem_su]
theorem mem_oT : x ∈ (Mi.oT a b).1 ↔ x ∈ a.1 ∨ x ∈ b.1 := by simp [Mi.oT, mem_su]
theorem mem_cT : x ∈ (Mi.cT a b).1 ↔ x ∈ a.1 ∧ x ∈ b.1 := mem_cmn
theorem m_asc (hp : isP p) (hx : isP x) (hy : isP y) : mul (mul p x) y = mul p (mul x y) := mul_assoc hp.2 hx.1 hy.1
theorem t_assoc {q : Nat} (ha : Vw n a) (hb : Vw m b) (hc : Vw q c) : mT (mT a b) c = mT a (mT b c) := by
  have e : ∀ y, y ∈ c.1 → mul (mT a b).2 y = mul a.2 (mul b.2 y) := fun y hy => m_asc ha.pe hb.pe (hc.pl hy)
  refine tt_eq ((ha.mT hb).mT hc) (ha.mT (hb.mT hc)) (fun x => ?_) (e _ hc.en)
  simp only [mem_mT]
  constructor
  · rintro ((h | ⟨y, hy, rfl⟩) | ⟨y, hy, rfl⟩)
    · exact .inl h
    · exact .inr ⟨y, .inl hy, rfl⟩
    · exact .inr ⟨_, .inr ⟨y, hy, rfl⟩, (e y hy).symm⟩
  · rintro (h | ⟨z, hz | ⟨y, hy, rfl⟩, rfl⟩)
    · exact .inl (.inl h)
    · exact .inl (.inr ⟨z, hz, rfl⟩)
    · exact .inr ⟨y, hy, e y hy⟩
theorem t_bb (ha : Vw n a) : bT (bT a) = a := by
  refine Prod.ext (seen_back ha ha.en) ?_
  exact bk_bk ha.pe.1
theorem t_bm (ha : Vw n a) (hb : Vw m b) : bT (mT a b) = mT (bT b) (bT a) := by
  have e0 : bk (mul a.2 b.2) = mul (bk b.2) (bk a.2) := bk_mul ha.pe hb.pe
  refine tt_eq (ha.mT hb).bT (hb.bT.mT ha.bT) (fun x => ?_) e0
  have e1 : ∀ y, isP y → mul (mul (bk b.2) (bk a.2)) y = mul (bk b.2) (mul (bk a.2) y) := fun y hy => m_asc (isP_bk hb.pe) (isP_bk ha.pe) hy
  simp only [mem_mT, mem_bT]
  show (∃ y, (y ∈ a.1 ∨ ∃ z, z ∈ b.1 ∧ mul a.2 z = y) ∧ mul (bk (mul a.2 b.2)) y = x) ↔ (∃ y, y ∈ b.1 ∧ mul (bk b.2) y = x) ∨ ∃ y, (∃ z, z ∈ a.1 ∧ mul (bk a.2) z = y) ∧ mul (bk b.2) y = x
  rw [e0]
  constructor
  · rintro ⟨y, hy | ⟨z, hz, rfl⟩, rfl⟩
    · exact .inr ⟨_, ⟨y, hy, rfl⟩, (e1 y (ha.pl hy)).symm⟩
    · refine .inl ⟨z, hz, ?_⟩
      rw [e1 _ (isP_mul ha.pe (hb.pl hz).1), bk_mul_mul ha.pe (hb.pl hz)]
  · rintro (⟨z, hz, rfl⟩ | ⟨_, ⟨y, hy, rfl⟩, rfl⟩)
    · exact ⟨_, .inr ⟨z, hz, rfl⟩, by rw [e1 _ (isP_mul ha.pe (hb.pl hz).1), bk_mul_mul ha.pe (hb.pl hz)]⟩
    · exact ⟨y, .inl hy, e1 y (ha.pl hy)⟩
/-- a tread and its back: the spare tOne -/
theorem t_ab (ha : Vw n a) : mT a (bT a) = sT a := by
  refine tt_eq (ha.mT ha.bT) ha.sT (fun x => ?_) (mul_bk_self ha.pe)
  simp only [mem_mT, mem_bT]
  show _ ↔ x ∈ a.1
  constructor
  · rintro (h | ⟨_, ⟨y, hy, rfl⟩, rfl⟩)
    · exact h
    · rw [mul_bk_mul ha.pe (ha.pl hy)]
      exact hy
  · exact .inl
theorem t_sa (ha : Vw n a) : mT (sT a) a = a := by
  refine tt_eq (ha.sT.mT ha) ha (fun x => ?_) (nil_mul ha.pe)
  simp only [mem_mT]
  constructor
  · rintro (h | ⟨y, hy, rfl⟩)
    · exact h
    · show mul [] y ∈ a.1
      rw [nil_mul (ha.pl hy)]
      exact hy
  · exact .inl
theorem t_aba (ha : Vw n a) : mT (mT a (bT a)) a = a := by rw [t_ab ha, t_sa ha]
/-- a spare tread ahead: all places of both -/
theorem t_sm (ha : Vw n a) (hb : Vw m b) : mT (sT a) b = (su (a.1 ++ b.1), b.2) := by
  refine Prod.ext (spare_mul hb) (nil_mul hb.pe)
theorem t_ss (ha : Vw n a) (hb : Vw m b) : mT (sT a) (sT b) = mT (sT b) (sT a) := by
  rw [t_sm ha hb.sT, t_sm hb ha.sT]
  exact Prod.ext (over_comm (A := a.1) (B := b.1)) rfl
theorem t_s2 (ha : Vw n a) : mT (sT a) (sT a) = sT a := t_sa ha.sT
theorem t_bs (ha : Vw n a) : bT (sT a) = sT a := by
  refine tt_eq ha.sT.bT ha.sT (fun x => ?_) rfl
  simp only [mem_bT]
  show (∃ y, y ∈ a.1 ∧ mul [] y = x) ↔ x ∈ a.1
  constructor
  · rintro ⟨y, hy, rfl⟩
    rw [nil_mul (ha.pl hy)]
    exact hy
  · exact fun h => ⟨x, h, nil_mul (ha.pl h)⟩
/-! ### powers -/
theorem t_1a (ha : Vw n a) : mT tOne a = a := by
  refine tt_eq (v_one.mT ha) ha (fun x => ?_) (nil_mul ha.pe)
  simp only [mem_mT]
  constructor
  · rintro (h | ⟨y, hy, rfl⟩)
    · simp [tOne] at h
      rw [h]
      exact ha.nil
    · show mul [] y ∈ a.1
      rw [nil_mul (ha.pl hy)]
      exact hy
  · exact fun h => .inr ⟨x, h, nil_mul (ha.pl h)⟩
theorem t_a1 (ha : Vw n a) : mT a tOne = a := by
  refine tt_eq (ha.mT v_one) ha (fun x => ?_) mul_nil
  simp only [mem_mT]
  constructor
  · rintro (h | ⟨y, hy, rfl⟩)
    · exact h
    · simp [tOne] at hy
      rw [hy, mul_nil]
      exact ha.en
  · exact .inl
theorem Vw.pT (ha : Vw n a) : ∀ q, Vw (1 + q * n) (pT a q)
  | 0 => by rw [Nat.zero_mul]; exact v_one
  | q + 1 => by
    have h := (Vw.pT ha q).mT ha
    rw [show 1 + q * n + n = 1 + (q + 1) * n by rw [Nat.succ_mul]; omega] at h
    exact h
theorem p_add (ha : Vw n a) (k : Nat) : ∀ q, mT (pT a k) (pT a q) = pT a (k + q)
  | 0 => t_a1 (ha.pT k)
  | q + 1 => by
    show mT (pT a k) (mT (pT a q) a) = mT (pT a (k + q)) a
    rw [← t_assoc (ha.pT k) (ha.pT q) ha, p_add ha k q]
theorem p_one (ha : Vw n a) : pT a 1 = a := t_1a ha
theorem p_mul (ha : Vw n a) (k : Nat) : ∀ q, pT (pT a k) q = pT a (k * q)
  | 0 => rfl
  | q + 1 => by
    show mT (pT (pT a k) q) (pT a k) = pT a (k * (q + 1))
    rw [p_mul ha k q, p_add ha, Nat.mul_succ]
theorem b_one : bT tOne = tOne := by
  refine tt_eq v_one.bT v_one (fun x => ?_) rfl
  simp only [mem_bT]
  simp [tOne, mul_nil, bk_nil, eq_comm]
theorem p_bT (ha : Vw n a) : ∀ q, pT (bT a) q = bT (pT a q)
  | 0 => b_one.symm
  | q + 1 => by
    show mT (pT (bT a) q) (bT a) = bT (mT (pT a q) a)
    rw [t_bm (ha.pT q) ha, ← p_bT ha q]
    have h1 := p_add ha.bT q 1
    have h2 := p_add ha.bT 1 q
    rw [p_one ha.bT] at h1 h2
    rw [h1, h2, Nat.add_comm]
/-! ### the order -/
theorem aT_iff : aT a b = true ↔ a.2 = b.2 ∧ ∀ x, x ∈ b.1 → x ∈ a.1 := by simp [aT]
theorem aT_self : aT a a = true := aT_iff.mpr ⟨rfl, fun _ h => h⟩
theorem bool_eq {x y : Bool} (h : x = true ↔ y = true) : x = y := by cases x <;> cases y <;> simp_all
theorem o_sp (ha : Vw n a) (hb : Vw m b) : aT a b = (decide ((mT (sT a) b).1 = a.1) && decide ((mT (sT a) b).2 = a.2)) := by
  refine bool_eq ?_
  rw [aT_iff, t_sm ha hb, Bool.and_eq_true, decide_eq_true_eq, decide_eq_true_eq]
  constructor
  · rintro ⟨e, h⟩
    refine ⟨?_, e.symm⟩
    rw [su_eq (m := a.1) fun x => by rw [mem_append]; exact ⟨fun z => z.elim id (h x), .inl⟩]
    exact ha.su
  · rintro ⟨h, e⟩
    refine ⟨e.symm, fun x hx => ?_⟩
    have : x ∈ su (a.1 ++ b.1) := mem_su.mpr (mem_append_right _ hx)
    rw [show su (a.1 ++ b.1) = a.1 from h] at this
    exact this
theorem o_anti (ha : Vw n a) (hb : Vw m b) : (aT a b && aT b a) = (decide (a.1 = b.1) && decide (a.2 = b.2)) := by
  refine bool_eq ?_
  rw [Bool.and_eq_true, aT_iff, aT_iff, Bool.and_eq_true, decide_eq_true_eq, decide_eq_true_eq]
  constructor
  · rintro ⟨⟨e, h⟩, -, k⟩
    have := tt_eq ha hb (fun x => ⟨k x, h x⟩) e
    exact ⟨congrArg Prod.fst this, e⟩
  · rintro ⟨h, e⟩
    exact ⟨⟨e, fun x hx => by rw [h]; exact hx⟩, e.symm, fun x hx => by rw [← h]; exact hx⟩
theorem o_bk (ha : Vw n a) (hb : Vw m b) : aT (bT a) (bT b) = aT a b := by
  refine bool_eq ?_
  rw [aT_iff, aT_iff]
  have back : ∀ {a b : Tw} {n m : Nat}, Vw n a → Vw m b → (bT a).2 = (bT b).2 → a.2 = b.2 := fun {a b n m} ha hb e => by
    have : bk (bk a.2) = bk (bk b.2) := congrArg bk e
    rwa [bk_bk ha.pe.1, bk_bk hb.pe.1] at this
  constructor
  · rintro ⟨e, h⟩
    have e2 := back ha hb e
    refine ⟨e2, fun x hx => ?_⟩
    obtain ⟨y, hy, ey⟩ := mem_bT.mp (h _ (mem_bT.mpr ⟨x, hx, rfl⟩))
    rw [← e2] at ey
    have := mul_inj (isP_bk ha.pe) (ha.pl hy) (hb.pl hx) ey
    rw [← this]
    exact hy
  · rintro ⟨e, h⟩
    refine ⟨congrArg bk e, fun x hx => ?_⟩
    obtain ⟨y, hy, rfl⟩ := mem_bT.mp hx
    exact mem_bT.mpr ⟨y, h y hy, by rw [e]⟩
theorem o_mr (h : aT a b = true) : aT (mT a c) (mT b c) = true := by
  obtain ⟨e, h⟩ := aT_iff.mp h
  refine aT_iff.mpr ⟨by show mul a.2 c.2 = mul b.2 c.2; rw [e], fun x hx => ?_⟩
  rw [mem_mT] at hx ⊢
  rcases hx with hx | ⟨y, hy, rfl⟩
  · exact .inl (h x hx)
  · exact .inr ⟨y, hy, by rw [e]⟩
theorem o_ml (h : aT a b = true) : aT (mT c a) (mT c b) = true := by
  obtain ⟨e, h⟩ := aT_iff.mp h
  refine aT_iff.mpr ⟨by show mul c.2 a.2 = mul c.2 b.2; rw [e], fun x hx => ?_⟩
  rw [mem_mT] at hx ⊢
  rcases hx with hx | ⟨y, hy, rfl⟩
  · exact .inl hx
  · exact .inr ⟨y, h y hy, rfl⟩
theorem o_over (ha : Vw n a) (hb : Vw m b) (e : a.2 = b.2) : oT a b = mT (sT a) b := by
  rw [t_sm ha hb]
  exact Prod.ext rfl e
theorem o_om (ha : Vw n a) (hb : Vw m b) (hc : Vw q c) (e : a.2 = b.2) : mT (oT a b) c = oT (mT a c) (mT b c) := by
  refine tt_eq ((ha.oT hb e).mT hc) ((ha.mT hc).oT (hb.mT hc) (by show mul a.2 c.2 = mul b.2 c.2; rw [e])) (fun x => ?_) rfl
  simp only [mem_mT, mem_oT]
  show ((x ∈ a.1 ∨ x ∈ b.1) ∨ ∃ y, y ∈ c.1 ∧ mul a.2 y = x) ↔ _
  rw [← e]
  constructor
  · rintro ((h | h) | h)
    · exact .inl (.inl h)
    · exact .inr (.inl h)
    · exact .inl (.inr h)
  · rintro ((h | h) | (h | h))
    · exact .inl (.inl h)
    · exact .inr h
    · exact .inl (.inr h)
    · exact .inr h
theorem o_cm (ha : Vw n a) (hb : Vw m b) (hc : Vw q c) (e : a.2 = b.2) : mT (cT a b) c = cT (mT a c) (mT b c) := by
  refine tt_eq ((ha.cT hb e).mT hc) ((ha.mT hc).cT (hb.mT hc) (by show mul a.2 c.2 = mul b.2 c.2; rw [e])) (fun x => ?_) rfl
  simp only [mem_mT, mem_cT]
  show ((x ∈ a.1 ∧ x ∈ b.1) ∨ ∃ y, y ∈ c.1 ∧ mul a.2 y = x) ↔ _
  rw [← e]
  constructor
  · rintro (⟨h, k⟩ | h)
    · exact ⟨.inl h, .inl k⟩
    · exact ⟨.inr h, .inr h⟩
  · rintro ⟨h | h, k | k⟩
    · exact .inl ⟨h, k⟩
    · exact .inr k
    · exact .inr h
    · exact .inr h
theorem o_oa (e : a.2 = b.2) : aT (oT a b) a = true ∧ aT (oT a b) b = true :=
  ⟨aT_iff.mpr ⟨rfl, fun x hx => mem_oT.mpr (.inl hx)⟩, aT_iff.mpr ⟨e, fun x hx => mem_oT.mpr (.inr hx)⟩⟩
theorem o_ac (e : a.2 = b.2) : aT a (cT a b) = true ∧ aT b (cT a b) = true :=
  ⟨aT_iff.mpr ⟨rfl, fun x hx => (mem_cT.mp hx).1⟩, aT_iff.mpr ⟨e.symm, fun x hx => (mem_cT.mp hx).2⟩⟩
theorem o_cc : aT (cT a a) a = true := aT_iff.mpr ⟨rfl, fun x hx => mem_cT.mpr ⟨hx, hx⟩⟩
theorem o_least (h : aT c a = true) (k : aT c b = true) : aT c (oT a b) = true := by
  rw [aT_iff] at h k ⊢
  exact ⟨h.1, fun x hx => (mem_oT.mp hx).elim (h.2 x) (k.2 x)⟩
theorem o_most (h : aT a c = true) (k : aT b c = true) : aT (cT a b) c = true := by
  rw [aT_iff] at h k ⊢
  exact ⟨h.1, fun x hx => mem_cT.mpr ⟨h.2 x hx, k.2 x hx⟩⟩
/-! ### seen from places -/
theorem n_back (ha : Vw n a) (hp : p ∈ a.1) : nT (nT a p) (bk p) = a := by
  refine Prod.ext (seen_back ha hp) ?_
  show mul (bk (bk p)) (mul (bk p) a.2) = a.2
  rw [bk_bk (ha.pl hp).1]
  exact mul_bk_mul (ha.pl hp) ha.pe
end
end Mi
end
section
set_option linter.all false
set_option maxRecDepth 100000
set_option Elab.async false
/-! The order of places by sorted sets of pairs. -/
namespace Mi
open List
def kx (x : S) : Q2 := ((x.length : Int), x)
theorem kx_le (x y : S) : leQ (kx x) (kx y) = leP x y := by
  unfold leQ leP kx
  simp only [Int.ofNat_lt, Int.natCast_inj]
theorem order_eq (L : List S) : ((ddQ (L.map kx)).mergeSort leQ).map Prod.snd = su L := by
  obtain ⟨M, hM⟩ : ∃ M, M = (ddQ (L.map kx)).mergeSort leQ := ⟨_, rfl⟩
  rw [← hM]
  have pm : M.Perm (ddQ (L.map kx)) := by rw [hM]; exact mergeSort_perm _ _
  have nd : M.Nodup := pm.nodup_iff.mpr (Mi.B.nd_dd _)
  have mem : ∀ q, q ∈ M ↔ ∃ x, x ∈ L ∧ kx x = q := fun q => by rw [pm.mem_iff, Mi.B.mem_dd, mem_map]
  have ek : ∀ q, q ∈ M → kx q.2 = q := fun q hq => by
    obtain ⟨x, _, rfl⟩ := (mem q).mp hq
    rfl
  have pw : M.Pairwise (fun a b => leQ a b = true) := by
    rw [hM]
    exact pairwise_mergeSort Mi.B.leQ_trans Mi.B.leQ_total _
  have nd2 : (M.map Prod.snd).Nodup := by
    refine pairwise_map.mpr (Pairwise.imp_of_mem (fun {p q} hp hq hne e => hne ?_) nd)
    rw [← ek p hp, ← ek q hq, e]
  have st : sortP (M.map Prod.snd) = M.map Prod.snd := by
    refine mergeSort_of_pairwise (pairwise_map.mpr (Pairwise.imp_of_mem (fun {p q} hp hq h => ?_) pw))
    rw [← kx_le, ek p hp, ek q hq]
    exact h
  refine (su_iff nd2 st fun x => ?_).symm
  rw [mem_map]
  constructor
  · exact fun h => ⟨kx x, (mem _).mpr ⟨x, h, rfl⟩, rfl⟩
  · rintro ⟨q, hq, rfl⟩
    obtain ⟨y, hy, rfl⟩ := (mem q).mp hq
    exact hy
theorem order_len (L : List S) : (ddQ (L.map kx)).length = (su L).length := by
  rw [← order_eq, length_map, length_mergeSort]
theorem pairL_kx : ∀ (L : List S), pairL (L.map fun x => .tup [.int x.length, .str x]) = some (L.map kx)
  | [] => rfl
  | x :: L => by
    show (pairL (L.map fun x => .tup [.int x.length, .str x])).map _ = _
    rw [pairL_kx L]
    rfl
theorem opSset_kx {L : List S} (h : (su L).length ≤ 1000) : opSset (.lst (L.map fun x => .tup [.int x.length, .str x])) = .ok (.lst (((ddQ (L.map kx)).mergeSort leQ).map fun q => .tup [.int q.1, .str q.2])) := by
  simp only [opSset, pairL_kx, order_len, if_pos h]
  rfl
theorem fold_found {w : S} : ∀ {p : S} {L : List S}, w.foldl (fun (b : S × List S) c => (gop b.1 c, b.2 ++ [gop b.1 c])) (p, L) = (mul p w, L ++ wk p w) := by
  induction w with
  | nil => intro p L; simp [mul_nil, wk]
  | cons c w ih =>
    intro p L
    rw [foldl_cons, ih, mul_cons]
    have hc : wk p (c :: w) = gop p c :: wk (gop p c) w := by
      simp [wk, gop_eq]
    rw [hc]
    simp
/-! ### pairs of values beside themselves -/
theorem e_cat {cl : Cl} {tb : Tabs} {a b : E} {Γ : Ga} : ev cl tb (.cat a b) Γ = (ev cl tb a Γ).bind fun x => (ev cl tb b Γ).bind fun y => opCat x y := rfl
def dd (v : D) : D := .tup [v, v]
def Gr (v : D) : Prop := ∃ s, opRepr v = .ok (.str s)
theorem immAll_dd : ∀ {vs : List D}, (∀ v, v ∈ vs → imm v = true) → immAll (vs.map dd) = true
  | [], _ => rfl
  | v :: vs, h => by
    show ((imm v && (imm v && true)) && immAll (vs.map dd)) = true
    rw [h v mem_cons_self, immAll_dd fun u hu => h u (mem_cons_of_mem _ hu)]
    rfl
/-- no pair of unlike texts -/
theorem pairs_none {cl : Cl} {tb : Tabs} {i j : Nat} {Γ : Ga} {vs : List D} (hi : Γ[i]? = some (some (.lst (vs.map dd)))) (hj : j < Γ.length) (hl : vs.length ≤ line) (h : ∀ v, v ∈ vs → Gr v) :
    ev cl tb (.lcIf (.it (.var i)) (.nm j) (.cmp .ne (.bi .repr (.cons (.ix (.var j) (.cst (.int 0))) .nil)) (.bi .repr (.cons (.ix (.var j) (.cst (.int 1))) .nil))) (.var j)) Γ = .ok (.lst []) := by
  have h1 : ev cl tb (.lcIf (.it (.var i)) (.nm j) (.cmp .ne (.bi .repr (.cons (.ix (.var j) (.cst (.int 0))) .nil)) (.bi .repr (.cons (.ix (.var j) (.cst (.int 1))) .nil))) (.var j)) Γ = .ok (.lst ((vs.filter fun _ => false).map dd)) :=
    ev_lcIf (g := dd) (by simp [evS, ev, Tr.bind, items, hi]) hl (by
      intro v hv
      obtain ⟨s, hs⟩ := h v hv
      have a0 : opIx (dd v) (.int 0) = .ok v := rfl
      have a1 : opIx (dd v) (.int 1) = .ok v := rfl
      have a2 : Bi.run .repr [v] = .ok (.str s) := by
        have : Bi.run .repr [v] = opRepr v := by cases v <;> rfl
        rw [this, hs]
      have hg : (Γ.set j (some (dd v)))[j]? = some (some (dd v)) := by simp [hj]
      simp only [ev, evs, hg, Tr.bind, a0, a1, a2, COp.run, opNe_str]
      simp) (by
      intro v hv
      have hg : (Γ.set j (some (dd v)))[j]? = some (some (dd v)) := by simp [hj]
      simp only [ev, hg])
  have e0 : (vs.filter fun _ => false) = [] := by simp
  rw [e0] at h1
  exact h1
theorem pairs_right {cl : Cl} {tb : Tabs} {i j : Nat} {Γ : Ga} {vs : List D} (hi : Γ[i]? = some (some (.lst (vs.map dd)))) (hj : j < Γ.length) (hl : vs.length ≤ line) (h : ∀ v, v ∈ vs → Gr v) :
    ev cl tb (.cmp .eq (.lcIf (.it (.var i)) (.nm j) (.cmp .ne (.bi .repr (.cons (.ix (.var j) (.cst (.int 0))) .nil)) (.bi .repr (.cons (.ix (.var j) (.cst (.int 1))) .nil))) (.var j)) (.lst .nil)) Γ = .ok (.bl true) := by
  simp only [e_cmp, e_lst, evs, pairs_none hi hj hl h, Tr.bind, COp.run]
  rfl
theorem Gr_T {n : Nat} {a : Tw} (h : Vw n a) (hn : n ≤ 500) : Gr (tD a) := by
  rw [tD_eq]
  exact repr_T h hn
theorem Gr_bl {b : Bool} : Gr (.bl b) := repr_bl
theorem Gr_str {w : S} (h : letB w = true) (hl : w.length ≤ 1000) : Gr (.str w) := repr_str h (by omega)
theorem Gr_nice {d : D} (h : nice d = true) (hd : depth d ≤ 60) (hw : wg d ≤ line) : Gr d := opRepr_nice h hd hw
theorem opCat_dd {x y : List D} (h : x.length + y.length ≤ line) : opCat (.lst (x.map dd)) (.lst (y.map dd)) = .ok (.lst ((x ++ y).map dd)) := by
  have : (x.map dd).length + (y.map dd).length ≤ line := by rw [length_map, length_map]; exact h
  simp only [opCat, if_pos this, map_append]
/-- a pair more -/
theorem app_dd {cl : Cl} {tb : Tabs} {i : Nat} {e : E} {g : Gs} {vs : List D} {v : D} (hi : g[i]? = some (some (.lst (vs.map dd), true))) (he : ev cl tb e (vis e.ment g) = .ok (dd v)) (hv : (imm (dd v) || noOwn e.ment g) = true) (hl : vs.length < line) : ex cl tb (.app i e) g = .ok (.next (g.set i (some (.lst ((vs ++ [v]).map dd), true)))) := by
  have h2 : (imm (dd v) || noOwn e.ment g) = true ∧ (vs.map dd).length < line := ⟨hv, by rw [length_map]; exact hl⟩
  have e1 : ex cl tb (.app i e) g = (match g[i]? with
    | some (some (.lst xs, true)) => (ev cl tb e (vis e.ment g)).bind fun y => if (imm y || noOwn e.ment g) = true ∧ xs.length < line then .ok (.next (g.set i (some (.lst (xs ++ [y]), true)))) else .stuck
    | _ => .stuck) := by
    unfold ex
    rfl
  rw [e1, hi]
  simp only [he, Tr.bind, if_pos h2, map_append, map_cons, map_nil]
theorem imm_dd {v : D} {x : Bool} (h : imm v = true) : (imm (dd v) || x) = true := by
  show ((imm v && (imm v && true)) || x) = true
  rw [h]
  rfl
theorem ownB_lst {es : Es} {vs : List D} (h : ∀ v, v ∈ vs → imm v = true) : ownB (.lst es) (.lst (vs.map dd)) = true := by
  show (true && (true && immAll (vs.map dd))) = true
  rw [immAll_dd h]
  rfl
theorem ownB_cat {a b : E} {vs : List D} (h : ∀ v, v ∈ vs → imm v = true) : ownB (.cat a b) (.lst (vs.map dd)) = true := by
  show (true && (true && immAll (vs.map dd))) = true
  rw [immAll_dd h]
  rfl
/-- the pairs' list set -/
theorem asg_dd {cl : Cl} {tb : Tabs} {i : Nat} {e : E} {g : Gs} {vs : List D} (he : ev cl tb e (vis e.ment g) = .ok (.lst (vs.map dd))) (ho : ownB e (.lst (vs.map dd)) = true) : ex cl tb (.asg i e) g = .ok (.next (g.set i (some (.lst (vs.map dd), true)))) := by
  show (ev cl tb e (vis e.ment g)).bind _ = _
  rw [he]
  show Tr.ok (Fl.next (List.set (clr (ownB e (.lst (vs.map dd)) || imm (.lst (vs.map dd))) e.ment g) i (some (.lst (vs.map dd), ownB e (.lst (vs.map dd)))))) = _
  rw [ho]
  rfl
theorem step {cl : Cl} {tb : Tabs} {c : C} {cs : Cs} {g g' : Gs} {r : Tr D} (h : ex cl tb c g = .ok (.next g')) (hr : (exs cl tb cs g').bind fin = r) : (exs cl tb (.cons c cs) g).bind fin = r := by
  rw [exs_next h]
  exact hr
theorem Tw_imm {a : Tw} : imm (tD a) = true := by
  rw [tD_eq]
  exact imm_T
theorem opEq_tD {a b : Tw} : opEq (tD a) (tD b) = .ok (.bl (decide (a.1 = b.1) && decide (a.2 = b.2))) := by
  rw [tD_eq, tD_eq]
  exact opEq_T
theorem ix_tD0 {a : Tw} : opIx (tD a) (.int 0) = .ok (.tup (plcs a.1)) := by
  rw [tD_eq]
  rfl
theorem ix_tD1 {a : Tw} : opIx (tD a) (.int 1) = .ok (.str a.2) := by
  rw [tD_eq]
  rfl
end Mi
end
section

set_option linter.all false
set_option maxRecDepth 100000
set_option Elab.async false
set_option maxHeartbeats 4000000
/-! The law's own words, places, orders, treads. -/
namespace K44
open PySem PySem.Spec PyProof.Rows L2 Mi
open List
theorem c_take {k : Nat} (hk : 6 ≤ k) {n : Nat} (h0 : 0 < n) (h1 : n < 1073741824) : C k 9 [.pen, .int n] = .take n fun i => .ok (.int i) := by
  obtain ⟨k, rfl, hj⟩ := lev hk
  show (if 5 ≤ k then takeP [.pen, .int n] else .stuck) = _
  rw [if_pos hj]
  have h : (0 : Int) < n ∧ (n : Int) < 1073741824 := by omega
  simp only [takeP, if_pos h, Int.toNat_natCast]
theorem c_pick {k : Nat} (hk : 7 ≤ k) {x : D} {n : Nat} (hx : opLen x = .ok (.int n)) (h0 : 0 < n) (h1 : n < 1073741824) : C k 10 [.pen, x] = (.take n fun i => (opIx x (.int i)).bind fun d => .ok d) := by
  obtain ⟨k, rfl, hj⟩ := lev hk
  show (exs (C k) R.c.tb d__law_z_pick.body (fr [some .pen, some x])).bind fin = _
  have h2 := c_take hj h0 h1
  have h3 : Bi.run .len [x] = .ok (.int n) := hx
  unfold d__law_z_pick
  simp only [exs, ex, vis_fr0, e_ix, e_var, e_call, e_bi, evs, getElem?_cons_zero, getElem?_cons_succ, Tr.bind, h3, h2, seq1]
  congr 1
  funext i
  rw [Tr.bind_assoc, Tr.bind_assoc]
  rfl
theorem pick_T {k : Nat} (hk : 7 ≤ k) {A : List S} (h0 : 0 < A.length) (h1 : A.length < 1073741824) {b : Nat} {P : Nat → D → Prop} {Er : Nat → Nat → Prop} (hb : 0 < b) (H : ∀ p, p ∈ A → P (b - 1) (.str p)) : (C k 10 [.pen, .tup (plcs A)]).wp b P Er := by
  rw [c_pick hk (n := A.length) (by simp [opLen, plcs_len]) h0 h1]
  refine ⟨h0, hb, fun i hi => ?_⟩
  have : L2.atI (plcs A) (i : Int) = some (.str A[i]) := L2.atI_nat (by simp [plcs, hi])
  simp only [opIx, this, Tr.bind]
  exact H _ (getElem_mem hi)
theorem pick_L {k : Nat} (hk : 7 ≤ k) {A : List S} (h0 : 0 < A.length) (h1 : A.length < 1073741824) {b : Nat} {P : Nat → D → Prop} {Er : Nat → Nat → Prop} (hb : 0 < b) (H : ∀ p, p ∈ A → P (b - 1) (.str p)) : (C k 10 [.pen, .lst (plcs A)]).wp b P Er := by
  rw [c_pick hk (n := A.length) (by simp [opLen, plcs_len]) h0 h1]
  refine ⟨h0, hb, fun i hi => ?_⟩
  have : L2.atI (plcs A) (i : Int) = some (.str A[i]) := L2.atI_nat (by simp [plcs, hi])
  simp only [opIx, this, Tr.bind]
  exact H _ (getElem_mem hi)
theorem pick_S {k : Nat} (hk : 7 ≤ k) {w : S} (h0 : 0 < w.length) (h1 : w.length < 1073741824) {b : Nat} {P : Nat → D → Prop} {Er : Nat → Nat → Prop} (hb : 0 < b) (H : ∀ c, c ∈ w → P (b - 1) (.str [c])) : (C k 10 [.pen, .str w]).wp b P Er := by
  rw [c_pick hk (n := w.length) (by simp [opLen]) h0 h1]
  refine ⟨h0, hb, fun i hi => ?_⟩
  have : L2.atI w (i : Int) = some w[i] := L2.atI_nat (getElem?_eq_getElem hi)
  simp only [opIx, this, Tr.bind]
  exact H _ (getElem_mem hi)
theorem it_L {L : List S} : items (.lst (plcs L)) = .ok (plcs L) := rfl
theorem it_T {L : List S} : items (.tup (plcs L)) = .ok (plcs L) := rfl
end K44
end
section
set_option linter.all false
set_option maxRecDepth 100000
/-! More helpers of evaluation: lists and tuples of texts compared. -/
namespace Mi
open List
theorem eqlist_ok {x y : D} (h : isData x = true ∧ isData y = true ∧ depth x ≤ 60 ∧ depth y ≤ 60) : opEq x y = .ok (.bl (eqD x y)) := if_pos h
theorem nelist_ok {x y : D} (h : isData x = true ∧ isData y = true ∧ depth x ≤ 60 ∧ depth y ≤ 60) : opNe x y = .ok (.bl (!eqD x y)) := if_pos h
theorem dl_ok {A : List S} : isData (.lst (plcs A)) = true ∧ depth (.lst (plcs A)) ≤ 60 := ⟨data_strs, by
  show 1 + depthAll (plcs A) ≤ 60
  rw [depth_strs]
  decide⟩
theorem dt_ok {A : List S} : isData (.tup (plcs A)) = true ∧ depth (.tup (plcs A)) ≤ 60 := ⟨data_strs, by
  show 1 + depthAll (plcs A) ≤ 60
  rw [depth_strs]
  decide⟩
theorem opEq_plcs {A B : List S} : opEq (.lst (plcs A)) (.lst (plcs B)) = .ok (.bl (decide (A = B))) := by
  rw [eqlist_ok ⟨dl_ok.1, dl_ok.1, dl_ok.2, dl_ok.2⟩]
  show Tr.ok (D.bl (eqDs (plcs A) (plcs B))) = _
  rw [eqDs_strs]
theorem opNe_plcs {A B : List S} : opNe (.lst (plcs A)) (.lst (plcs B)) = .ok (.bl (!decide (A = B))) := by
  rw [nelist_ok ⟨dl_ok.1, dl_ok.1, dl_ok.2, dl_ok.2⟩]
  show Tr.ok (D.bl (!eqDs (plcs A) (plcs B))) = _
  rw [eqDs_strs]
theorem opEq_tups {A B : List S} : opEq (.tup (plcs A)) (.tup (plcs B)) = .ok (.bl (decide (A = B))) := by
  rw [eqlist_ok ⟨dt_ok.1, dt_ok.1, dt_ok.2, dt_ok.2⟩]
  show Tr.ok (D.bl (eqDs (plcs A) (plcs B))) = _
  rw [eqDs_strs]
theorem opNe_tups {A B : List S} : opNe (.tup (plcs A)) (.tup (plcs B)) = .ok (.bl (!decide (A = B))) := by
  rw [nelist_ok ⟨dt_ok.1, dt_ok.1, dt_ok.2, dt_ok.2⟩]
  show Tr.ok (D.bl (!eqDs (plcs A) (plcs B))) = _
  rw [eqDs_strs]
theorem opEq_nil {A : List S} : opEq (.lst (plcs A)) (.lst []) = .ok (.bl (decide (A = []))) := opEq_plcs (B := [])
theorem opNe_nil {A : List S} : opNe (.lst (plcs A)) (.lst []) = .ok (.bl (!decide (A = []))) := opNe_plcs (B := [])
theorem wp_eq {α : Type} {t t' : Tr α} {b : Nat} {P : Nat → α → Prop} {E : Nat → Nat → Prop} (h : t = t') (H : t'.wp b P E) : t.wp b P E := by
  rw [h]
  exact H
theorem wp_okI {α : Type} {a : α} {b : Nat} {P : Nat → α → Prop} {E : Nat → Nat → Prop} (h : P b a) : (Tr.ok a).wp b P E := h
theorem plcs_ix0 {a : S} {A : List S} : opIx (.lst (plcs (a :: A))) (.int 0) = .ok (.str a) := by
  have : L2.atI (plcs (a :: A)) ((0 : Nat) : Int) = some (.str a) := L2.atI_nat rfl
  show (match L2.atI (plcs (a :: A)) ((0 : Nat) : Int) with
    | some d => Tr.ok d
    | none => .stuck) = _
  rw [this]
theorem opAdd_plcs {A B : List S} (h : A.length + B.length ≤ line) : opAdd (.lst (plcs A)) (.lst (plcs B)) = .ok (.lst (plcs (A ++ B))) := by
  have : (plcs A).length + (plcs B).length ≤ line := by rw [plcs_len, plcs_len]; exact h
  simp only [opAdd, if_pos this]
  simp [plcs]
theorem opAdd_tups {A B : List S} (h : A.length + B.length ≤ line) : opAdd (.tup (plcs A)) (.tup (plcs B)) = .ok (.tup (plcs (A ++ B))) := by
  have : (plcs A).length + (plcs B).length ≤ line := by rw [plcs_len, plcs_len]; exact h
  simp only [opAdd, if_pos this]
  simp [plcs]
theorem opAdd_strI {x y : S} (h : x.length + y.length ≤ line) : opAdd (.str x) (.str y) = .ok (.str (x ++ y)) := by simp only [opAdd, if_pos h]
end Mi
end
section
set_option linter.all false
set_option maxRecDepth 100000
/-! Statements by what is seen of the slots. -/
namespace Mi
open List
theorem visAt_get {ms : List Nat} : ∀ {g : Gs} {k i : Nat}, (visAt ms k g)[i]? = (g[i]?).map fun x => match x with
    | none => none
    | some (d, o) => match o && !(ms.contains (k + i)) with
      | true => none
      | false => some d
  | [], k, i => by cases i <;> rfl
  | none :: r, k, 0 => rfl
  | some (d, o) :: r, k, 0 => rfl
  | none :: r, k, i + 1 => by
    show (visAt ms (k + 1) r)[i]? = _
    rw [visAt_get, show k + 1 + i = k + (i + 1) by omega]
    rfl
  | some (d, o) :: r, k, i + 1 => by
    show (visAt ms (k + 1) r)[i]? = _
    rw [visAt_get, show k + 1 + i = k + (i + 1) by omega]
    rfl
/-- Γ shows what g holds: plain ones, and the own ones that are named -/
def Seen (ms : List Nat) (g : Gs) (Γ : Ga) : Prop := Γ.length = g.length ∧ ∀ (i : Nat) (d : D) (o : Bool), g[i]? = some (some (d, o)) → (o = false ∨ ms.contains i = true) → Γ[i]? = some (some d)
theorem visAt_len {ms : List Nat} : ∀ {k : Nat} {g : Gs}, (visAt ms k g).length = g.length
  | _, [] => rfl
  | k, none :: r => congrArg (· + 1) (visAt_len (k := k + 1) (g := r))
  | k, some (d, o) :: r => congrArg (· + 1) (visAt_len (k := k + 1) (g := r))
theorem seen_vis {ms : List Nat} {g : Gs} : Seen ms g (vis ms g) := ⟨visAt_len, fun i d o h ho => by
  show (visAt ms 0 g)[i]? = _
  rw [visAt_get, h]
  rcases ho with ho | ho
  · subst ho
    rfl
  · show some (match o && !(ms.contains (0 + i)) with
      | true => none
      | false => some d) = _
    rw [Nat.zero_add, ho]
    cases o <;> rfl⟩
theorem Seen.pl {ms : List Nat} {g : Gs} {Γ : Ga} (s : Seen ms g Γ) {i : Nat} {d : D} (h : g[i]? = some (some (d, false))) : Γ[i]? = some (some d) := s.2 i d false h (.inl rfl)
theorem Seen.ow {ms : List Nat} {g : Gs} {Γ : Ga} (s : Seen ms g Γ) {i : Nat} {d : D} {o : Bool} (h : g[i]? = some (some (d, o))) (hm : ms.contains i = true) : Γ[i]? = some (some d) := s.2 i d o h (.inr hm)
section
variable {cl : Cl} {tb : Tabs} {e t : E} {es : Es} {is : List Nat} {i j : Nat} {a cs body : Cs} {g : Gs} {b : Nat} {P : Nat → Fl → Prop} {Er : Nat → Nat → Prop}
theorem asgN (hf : e.fresh = false) (h : ∀ Γ, Seen e.ment g Γ → (ev cl tb e Γ).wp b (fun b' d => imm d = true ∧ (exs cl tb cs (g.set i (some (d, false)))).wp b' P Er) Er) : (exs cl tb (.cons (.asg i e) cs) g).wp b P Er := by
  refine exs_wp ?_
  show Tr.wp (Tr.bind (ev cl tb e (vis e.ment g)) _) b _ Er
  refine ev_wp_bind (Tr.wp_mono (fun b1 d h1 => ?_) (fun _ _ z => z) _ _ (h _ seen_vis))
  have hb : ownB e d = false := by unfold ownB; rw [hf]; rfl
  rw [hb, h1.1]
  exact h1.2
/-- a list or dict that is not new: what is named may be changed no more -/
theorem asgC (hf : e.fresh = false) (h : ∀ Γ, Seen e.ment g Γ → (ev cl tb e Γ).wp b (fun b' d => (exs cl tb cs ((clr (imm d) e.ment g).set i (some (d, false)))).wp b' P Er) Er) : (exs cl tb (.cons (.asg i e) cs) g).wp b P Er := by
  refine exs_wp ?_
  show Tr.wp (Tr.bind (ev cl tb e (vis e.ment g)) _) b _ Er
  refine ev_wp_bind (Tr.wp_mono (fun b1 d h1 => ?_) (fun _ _ z => z) _ _ (h _ seen_vis))
  have hb : ownB e d = false := by unfold ownB; rw [hf]; rfl
  rw [hb]
  exact h1
theorem asgO (h : ∀ Γ, Seen e.ment g Γ → (ev cl tb e Γ).wp b (fun b' d => ownB e d = true ∧ (exs cl tb cs (g.set i (some (d, true)))).wp b' P Er) Er) : (exs cl tb (.cons (.asg i e) cs) g).wp b P Er := by
  refine exs_wp ?_
  show Tr.wp (Tr.bind (ev cl tb e (vis e.ment g)) _) b _ Er
  refine ev_wp_bind (Tr.wp_mono (fun b1 d h1 => ?_) (fun _ _ z => z) _ _ (h _ seen_vis))
  rw [h1.1]
  exact h1.2
theorem parN (hf : e.fresh = false) (h : ∀ Γ, Seen (es.ment ++ e.ment) g Γ → (evs cl tb es Γ).wp b (fun b1 ds => (ev cl tb e Γ).wp b1 (fun b2 d => ds.length = is.length ∧ immAll ds = true ∧ imm d = true ∧ (exs cl tb cs ((setsS g is ds).set j (some (d, false)))).wp b2 P Er) Er) Er) : (exs cl tb (.cons (.par is es j e) cs) g).wp b P Er := by
  refine exs_wp ?_
  show Tr.wp (Tr.bind (evs cl tb es _) _) b _ Er
  refine ev_wp_bind (Tr.wp_mono (fun b1 ds h1 => ?_) (fun _ _ z => z) _ _ (h _ seen_vis))
  refine ev_wp_bind (Tr.wp_mono (fun b2 d h2 => ?_) (fun _ _ z => z) _ _ h1)
  obtain ⟨h3, h4, h5, h6⟩ := h2
  have hb : ownB e d = false := by unfold ownB; rw [hf]; rfl
  rw [if_pos h3, hb, h4, h5]
  exact h6
/-- the last one is new -/
theorem parO (h : ∀ Γ, Seen (es.ment ++ e.ment) g Γ → (evs cl tb es Γ).wp b (fun b1 ds => (ev cl tb e Γ).wp b1 (fun b2 d => ds.length = is.length ∧ immAll ds = true ∧ ownB e d = true ∧ (exs cl tb cs ((setsS g is ds).set j (some (d, true)))).wp b2 P Er) Er) Er) : (exs cl tb (.cons (.par is es j e) cs) g).wp b P Er := by
  refine exs_wp ?_
  show Tr.wp (Tr.bind (evs cl tb es _) _) b _ Er
  refine ev_wp_bind (Tr.wp_mono (fun b1 ds h1 => ?_) (fun _ _ z => z) _ _ (h _ seen_vis))
  refine ev_wp_bind (Tr.wp_mono (fun b2 d h2 => ?_) (fun _ _ z => z) _ _ h1)
  obtain ⟨h3, h4, h5, h6⟩ := h2
  rw [if_pos h3, h5, h4]
  exact h6
theorem exprN (h : ∀ Γ, Seen e.ment g Γ → (ev cl tb e Γ).wp b (fun b' _ => (exs cl tb cs g).wp b' P Er) Er) : (exs cl tb (.cons (.expr e) cs) g).wp b P Er := by
  refine exs_wp ?_
  show Tr.wp (Tr.bind (ev cl tb e (vis e.ment g)) _) b _ Er
  exact ev_wp_bind (Tr.wp_mono (fun b1 d h1 => h1) (fun _ _ z => z) _ _ (h _ seen_vis))
theorem guardN (h : ∀ Γ, Seen t.ment g Γ → (ev cl tb t Γ).wp b (fun b' x => truth x = .ok false ∧ (exs cl tb cs g).wp b' P Er) Er) : (exs cl tb (.cons (.ife t a .nil) cs) g).wp b P Er := by
  refine exs_wp ?_
  show Tr.wp (Tr.bind (ev cl tb t (vis t.ment g)) _) b _ Er
  refine ev_wp_bind (Tr.wp_mono (fun b1 d h1 => ?_) (fun _ _ z => z) _ _ (h _ seen_vis))
  rw [h1.1]
  exact h1.2
theorem iteN {c : Cs} (h : ∀ Γ, Seen t.ment g Γ → (ev cl tb t Γ).wp b (fun b' x => ∃ k, truth x = .ok k ∧ (k = true → (exs cl tb a g).wp b' (fun b2 fl => (seq1 fl fun g' => exs cl tb cs g').wp b2 P Er) Er) ∧ (k = false → (exs cl tb c g).wp b' (fun b2 fl => (seq1 fl fun g' => exs cl tb cs g').wp b2 P Er) Er)) Er) : (exs cl tb (.cons (.ife t a c) cs) g).wp b P Er := by
  refine exs_wp ?_
  show Tr.wp (Tr.bind (ev cl tb t (vis t.ment g)) _) b _ Er
  refine ev_wp_bind (Tr.wp_mono (fun b1 d h1 => ?_) (fun _ _ z => z) _ _ (h _ seen_vis))
  obtain ⟨k, h2, h3, h4⟩ := h1
  rw [h2]
  cases k
  · exact h4 rfl
  · exact h3 rfl
theorem retV (h : ∀ Γ, Seen e.ment g Γ → (ev cl tb e Γ).wp b (fun b' d => P b' (.ret d)) Er) : (exs cl tb (.cons (.ret e) cs) g).wp b P Er := by
  refine exs_wp ?_
  show Tr.wp (Tr.bind (ev cl tb e (vis e.ment g)) _) b _ Er
  exact ev_wp_bind (Tr.wp_mono (fun b1 d h1 => h1) (fun _ _ z => z) _ _ (h _ seen_vis))
theorem appN {xs : List D} (hg : g[i]? = some (some (.lst xs, true))) (hl : xs.length < line) (h : ∀ Γ, Seen e.ment g Γ → (ev cl tb e Γ).wp b (fun b' y => imm y = true ∧ (exs cl tb cs (g.set i (some (.lst (xs ++ [y]), true)))).wp b' P Er) Er) : (exs cl tb (.cons (.app i e) cs) g).wp b P Er := by
  refine exs_wp ?_
  have e1 : ex cl tb (.app i e) g = (ev cl tb e (vis e.ment g)).bind fun y => if (imm y || noOwn e.ment g) = true ∧ xs.length < line then .ok (.next (g.set i (some (.lst (xs ++ [y]), true)))) else .stuck := by
    unfold ex
    rw [hg]
  rw [e1]
  refine ev_wp_bind (Tr.wp_mono (fun b1 d h1 => ?_) (fun _ _ z => z) _ _ (h _ seen_vis))
  rw [h1.1, if_pos ⟨rfl, hl⟩]
  exact h1.2
theorem setiN {k : E} {d d' y x : D} (hg : g[i]? = some (some (d, true))) (hv : ∀ Γ, Seen e.ment g Γ → ev cl tb e Γ = .ok y) (hi : imm y = true) (hk : ∀ Γ, Seen k.ment g Γ → ev cl tb k Γ = .ok x) (hs : setO d x y = some d') (h : (exs cl tb cs (g.set i (some (d', true)))).wp b P Er) : (exs cl tb (.cons (.seti i k e) cs) g).wp b P Er := by
  refine exs_wp ?_
  have e1 : ex cl tb (.seti i k e) g = .ok (.next (g.set i (some (d', true)))) := by
    unfold ex
    rw [hv _ seen_vis]
    simp only [Tr.bind, hi, hg, hk _ seen_vis, hs]
  rw [e1]
  exact h
theorem forN {tg : Tg} {s : Src} {I : Nat → List D → Gs → Prop} (hs : ∀ Γ, Seen s.ment g Γ → (evS cl tb s Γ).wp b (fun b' xs => I b' xs (clr false s.ment g)) Er)
    (H : ∀ b x r g, I b (x :: r) g → ∃ g', bindG x tg g = some g' ∧ (exs cl tb body g').wp b (fun b' fl => ∃ g'', (fl = .next g'' ∨ fl = .cont g'') ∧ I b' r g'') Er)
    (hend : ∀ b g, I b [] g → (exs cl tb cs g).wp b P Er) : (exs cl tb (.cons (.for_ tg s body) cs) g).wp b P Er := by
  refine exs_wp ?_
  show Tr.wp (Tr.bind (evS cl tb s (vis s.ment g)) _) b _ Er
  refine ev_wp_bind (Tr.wp_mono (fun b1 xs h1 => ?_) (fun _ _ z => z) _ _ (hs _ seen_vis))
  have key : ∀ (l : List D) (b : Nat) (g : Gs), I b l g → (forL (fun d g => match bindG d tg g with
      | some g' => exs cl tb body g'
      | none => .stuck) l g).wp b (fun b' fl => ∃ g', fl = .next g' ∧ I b' [] g') Er := by
    intro l
    induction l with
    | nil => intro b g h; exact ⟨g, rfl, h⟩
    | cons x l ih =>
      intro b g h
      obtain ⟨g', h1, h2⟩ := H b x l g h
      refine ev_wp_bind (Tr.wp_mono (fun b2 fl h3 => ?_) (fun _ _ z => z) _ _ (wp_eq (by simp only [h1]) h2))
      obtain ⟨g'', h4, h5⟩ := h3
      rcases h4 with rfl | rfl
      · exact ih _ _ h5
      · exact ih _ _ h5
  refine Tr.wp_mono (fun b2 fl h2 => ?_) (fun _ _ z => z) _ _ (key xs b1 _ h1)
  obtain ⟨g', rfl, h3⟩ := h2
  exact hend b2 g' h3
theorem forM {α : Type} {tg : Tg} {s : Src} {g0 : α → D} {J : Nat → List α → Gs → Prop} (hs : ∀ Γ, Seen s.ment g Γ → (evS cl tb s Γ).wp b (fun b' xs => ∃ l : List α, xs = l.map g0 ∧ J b' l (clr false s.ment g)) Er)
    (H : ∀ b a r g, J b (a :: r) g → ∃ g', bindG (g0 a) tg g = some g' ∧ (exs cl tb body g').wp b (fun b' fl => ∃ g'', (fl = .next g'' ∨ fl = .cont g'') ∧ J b' r g'') Er)
    (hend : ∀ b g, J b [] g → (exs cl tb cs g).wp b P Er) : (exs cl tb (.cons (.for_ tg s body) cs) g).wp b P Er := by
  refine forN (I := fun b xs g => ∃ l : List α, xs = l.map g0 ∧ J b l g) hs (fun b x r g hI => ?_) (fun b g hI => ?_)
  · obtain ⟨l, h1, h2⟩ := hI
    cases l with
    | nil => cases h1
    | cons a l =>
      rw [map_cons] at h1
      injection h1 with h3 h4
      obtain ⟨g', h5, h6⟩ := H b a l g h2
      refine ⟨g', by rw [h3]; exact h5, Tr.wp_mono (fun b2 fl h7 => ?_) (fun _ _ z => z) _ _ h6⟩
      obtain ⟨g'', h8, h9⟩ := h7
      exact ⟨g'', h8, l, h4, h9⟩
  · obtain ⟨l, h1, h2⟩ := hI
    have : l = [] := by
      cases l with
      | nil => rfl
      | cons a l => cases h1
    subst this
    exact hend b g h2
theorem nilN (h : P b (.next g)) : (exs cl tb .nil g).wp b P Er := h
end
theorem clr_getP {ms : List Nat} {g : Gs} {i : Nat} {d : D} (h : g[i]? = some (some (d, false))) : (clr false ms g)[i]? = some (some (d, false)) := by
  have key : ∀ (g : Gs) (k i : Nat), g[i]? = some (some (d, false)) → (clrAt ms k g)[i]? = some (some (d, false)) := by
    intro g
    induction g with
    | nil => intro k i h; simp at h
    | cons x g ih =>
      intro k i h
      rcases x with _ | ⟨x, o⟩ <;> cases i with
      | zero => first | (simp at h; done) | (simp at h; obtain ⟨rfl, rfl⟩ := h; rfl)
      | succ i => exact ih (k + 1) i (by simpa using h)
  exact key g 0 i h
/-- an own one that is not named stays own -/
theorem own_clrP {ms : List Nat} {g : Gs} {i : Nat} {d : D} (h : g[i]? = some (some (d, true))) (hm : i ∉ ms) {b : Bool} : (clr b ms g)[i]? = some (some (d, true)) := by
  have key : ∀ (g : Gs) (k i : Nat), g[i]? = some (some (d, true)) → k + i ∉ ms → (clrAt ms k g)[i]? = some (some (d, true)) := by
    intro g
    induction g with
    | nil => intro k i h; simp at h
    | cons x g ih =>
      intro k i h hm
      cases i with
      | zero =>
        have : x = some (d, true) := by simpa using h
        subst this
        have e : ms.contains k = false := by
          cases e : ms.contains k with
          | false => rfl
          | true => exact absurd (by simpa using e) hm
        show some (some (d, true && !(ms.contains k))) = _
        rw [e]
        rfl
      | succ i =>
        rcases x with _ | ⟨x, o⟩
        · exact ih (k + 1) i (by simpa using h) (by rw [show k + 1 + i = k + (i + 1) by omega]; exact hm)
        · exact ih (k + 1) i (by simpa using h) (by rw [show k + 1 + i = k + (i + 1) by omega]; exact hm)
  cases b
  · exact key g 0 i h (by rw [Nat.zero_add]; exact hm)
  · exact h
/-- n slots; what some of them hold -/
def Fx (n : Nat) (g : Gs) (fs : List (Nat × D)) : Prop := g.length = n ∧ ∀ p, p ∈ fs → g[p.1]? = some (some (p.2, false))
section
variable {n : Nat} {g : Gs} {fs fs' : List (Nat × D)} {i : Nat} {d : D}
theorem Fx.put (h : Fx n g fs) (hi : i < n) : Fx n (g.set i (some (d, false))) ((i, d) :: fs.filter fun p => decide (p.1 ≠ i)) := by
  refine ⟨by rw [length_set]; exact h.1, fun p hp => ?_⟩
  rcases mem_cons.mp hp with rfl | hp
  · exact getElem?_set_self (by rw [h.1]; exact hi)
  · obtain ⟨h1, h2⟩ := mem_filter.mp hp
    have h3 : p.1 ≠ i := of_decide_eq_true h2
    rw [getElem?_set_ne h3.symm]
    exact h.2 p h1
theorem Fx.own (h : Fx n g fs) {x : Option (D × Bool)} : Fx n (g.set i x) (fs.filter fun p => decide (p.1 ≠ i)) := by
  refine ⟨by rw [length_set]; exact h.1, fun p hp => ?_⟩
  obtain ⟨h1, h2⟩ := mem_filter.mp hp
  have h3 : p.1 ≠ i := of_decide_eq_true h2
  rw [getElem?_set_ne h3.symm]
  exact h.2 p h1
theorem Fx.sub (h : Fx n g fs) (hs : ∀ p, p ∈ fs' → p ∈ fs) : Fx n g fs' := ⟨h.1, fun p hp => h.2 p (hs p hp)⟩
theorem clrAt_len {ms : List Nat} : ∀ {k : Nat} {g : Gs}, (clrAt ms k g).length = g.length
  | _, [] => rfl
  | k, none :: r => congrArg (· + 1) (clrAt_len (k := k + 1) (g := r))
  | k, some (d, o) :: r => congrArg (· + 1) (clrAt_len (k := k + 1) (g := r))
theorem Fx.clr (h : Fx n g fs) {ms : List Nat} {b : Bool} : Fx n (clr b ms g) fs := by
  cases b
  · exact ⟨clrAt_len.trans h.1, fun p hp => clr_getP (h.2 p hp)⟩
  · exact h
theorem Fx.see (h : Fx n g fs) {ms : List Nat} {Γ : Ga} (s : Seen ms g Γ) (hm : (i, d) ∈ fs) : Γ[i]? = some (some d) := s.pl (h.2 (i, d) hm)
theorem Fx.len (h : Fx n g fs) {ms : List Nat} {Γ : Ga} (s : Seen ms g Γ) : Γ.length = n := s.1.trans h.1
theorem Fx.at (h : Fx n g fs) (hm : (i, d) ∈ fs) : g[i]? = some (some (d, false)) := h.2 (i, d) hm
theorem set_own (h : g.length = n) (hi : i < n) {x : D × Bool} : (g.set i (some x))[i]? = some (some x) := getElem?_set_self (by rw [h]; exact hi)
end
theorem ok_wpI {α : Type} {t : Tr α} {a : α} {b : Nat} {P : Nat → α → Prop} {E : Nat → Nat → Prop} (h : t = .ok a) (H : P b a) : t.wp b P E := by
  rw [h]
  exact H
theorem rng2_ok {cl : Cl} {tb : Tabs} {a e : E} {Γ : Ga} {m n : Nat} (h1 : ev cl tb a Γ = .ok (.int m)) (h2 : ev cl tb e Γ = .ok (.int n)) (hm : m ≤ 1000000) (hn : n ≤ 1000000) : evS cl tb (.rng2 a e) Γ = .ok ((range (n - m)).map fun j => .int ((m + j : Nat) : Int)) := by
  have e1 : evS cl tb (.rng2 a e) Γ = (ev cl tb a Γ).bind fun x => (ev cl tb e Γ).bind fun y => match x, y with
    | .int i, .int j => if -(2 ^ 62) ≤ i ∧ i < 2 ^ 62 ∧ -(2 ^ 62) ≤ j ∧ j < 2 ^ 62 then .ok (rngL i j) else .stuck
    | _, _ => .stuck := rfl
  have hr : rngL (m : Int) (n : Int) = (range (n - m)).map fun j => .int ((m + j : Nat) : Int) := by
    have : ((n : Int) - (m : Int)).toNat = n - m := by omega
    unfold rngL
    rw [this]
    exact map_congr_left fun j _ => rfl
  have key : ∀ m n : Nat, m ≤ 1000000 → n ≤ 1000000 → (if -(2 ^ 62) ≤ (m : Int) ∧ (m : Int) < 2 ^ 62 ∧ -(2 ^ 62) ≤ (n : Int) ∧ (n : Int) < 2 ^ 62 then Tr.ok (rngL (m : Int) (n : Int)) else .stuck) = .ok (rngL (m : Int) (n : Int)) := by
    intro m n hm hn
    have a1 : -(2 ^ 62) ≤ (m : Int) := by omega
    have a2 : (m : Int) < 2 ^ 62 := by omega
    have a3 : -(2 ^ 62) ≤ (n : Int) := by omega
    have a4 : (n : Int) < 2 ^ 62 := by omega
    exact if_pos ⟨a1, a2, a3, a4⟩
  have k2 := key m n hm hn
  rw [hr] at k2
  rw [e1]
  rw [h1]
  rw [Tr.ok_bind]
  rw [h2]
  rw [Tr.ok_bind]
  rw [← hr] at k2 ⊢
  generalize hq : (if -(2 ^ 62) ≤ (m : Int) ∧ (m : Int) < 2 ^ 62 ∧ -(2 ^ 62) ≤ (n : Int) ∧ (n : Int) < 2 ^ 62 then Tr.ok (rngL (m : Int) (n : Int)) else .stuck) = q at k2
  subst k2
  exact hq
theorem rngL_nat {n : Nat} : rngL 0 (n : Int) = (range n).map fun i : Nat => D.int (i : Int) := by
  unfold rngL
  have : ((n : Int) - 0).toNat = n := by omega
  rw [this]
  exact map_congr_left fun i _ => by rw [Int.zero_add]
end Mi
end
section
set_option linter.all false
set_option maxRecDepth 100000
set_option Elab.async false
/-! More rules of slots. -/
namespace Mi
open PySem PySem.Spec PyProof.Rows L2
open List
section
variable {cl : Cl} {tb : Tabs} {i j : Nat} {e : E} {es : Es} {is : List Nat} {cs : Cs} {g : Gs} {b : Nat} {P : Nat → Fl → Prop} {Er : Nat → Nat → Prop}
/-- a new list of lists -/
theorem asgX (h : ∀ Γ, Seen e.ment g Γ → (ev cl tb e Γ).wp b (fun b' d => ownB e d = false ∧ (exs cl tb cs ((clr (imm d) e.ment g).set i (some (d, false)))).wp b' P Er) Er) : (exs cl tb (.cons (.asg i e) cs) g).wp b P Er := by
  refine exs_wp ?_
  show Tr.wp (Tr.bind (ev cl tb e (vis e.ment g)) _) b _ Er
  refine ev_wp_bind (Tr.wp_mono (fun b1 d h1 => ?_) (fun _ _ z => z) _ _ (h _ seen_vis))
  rw [h1.1]
  exact h1.2
/-- the last one may be a list that is not new -/
theorem parX (hf : e.fresh = false) (h : ∀ Γ, Seen (es.ment ++ e.ment) g Γ → (evs cl tb es Γ).wp b (fun b1 ds => (ev cl tb e Γ).wp b1 (fun b2 d => ds.length = is.length ∧ ∀ x, (exs cl tb cs ((setsS (clr x (es.ment ++ e.ment) g) is ds).set j (some (d, false)))).wp b2 P Er) Er) Er) : (exs cl tb (.cons (.par is es j e) cs) g).wp b P Er := by
  refine exs_wp ?_
  show Tr.wp (Tr.bind (evs cl tb es (vis (es.ment ++ e.ment) g)) _) b _ Er
  refine ev_wp_bind (Tr.wp_mono (fun b1 ds h1 => ?_) (fun _ _ z => z) _ _ (h _ seen_vis))
  refine ev_wp_bind (Tr.wp_mono (fun b2 d h2 => ?_) (fun _ _ z => z) _ _ h1)
  have hb : ownB e d = false := by unfold ownB; rw [hf]; rfl
  rw [if_pos h2.1, hb]
  exact h2.2 _
/-- a guard that is met -/
theorem guardR {t : E} (h : ∀ Γ, Seen t.ment g Γ → ev cl tb t Γ = .ok (.bl true)) (he : ∀ Γ, Seen e.ment g Γ → (ev cl tb e Γ).wp b (fun b' d => P b' (.ret d)) Er) : (exs cl tb (.cons (.ife t (.cons (.ret e) .nil) .nil) cs) g).wp b P Er := by
  refine iteN fun Γ s => ok_wpI (h Γ s) ⟨true, rfl, fun _ => ?_, fun z => nomatch z⟩
  exact retV fun Γ s => Tr.wp_mono (fun b' d h => h) (fun _ _ z => z) _ _ (he Γ s)
/-- a loop over a dict -/
theorem forKM {tg : Tg} {body : Cs} {kvs : List (S × D)} {J : Nat → List S → Gs → Prop} (hv : ∀ Γ, Seen [i] g Γ → Γ[i]? = some (some (.dct kvs))) (h0 : J b (kvs.map (·.1)) (clr false [i] g))
    (H : ∀ b x r g, J b (x :: r) g → ∃ g', bindG (.str x) tg g = some g' ∧ (exs cl tb body g').wp b (fun b' fl => ∃ g'', (fl = .next g'' ∨ fl = .cont g'') ∧ J b' r g'') (fun _ _ => False))
    (hend : ∀ b g, J b [] g → (exs cl tb cs g).wp b P Er) : (exs cl tb (.cons (.forK tg i body) cs) g).wp b P Er := by
  refine exs_wp ?_
  have e1 : ex cl tb (.forK tg i body) g = (forL (fun d g => match bindG d tg g with
      | some g' => exs cl tb body g'
      | none => .stuck) (kvs.map fun p => .str p.1) (clr false [i] g)).noErr := by
    unfold ex
    rw [hv _ seen_vis] <;> rfl
  rw [e1]
  have key : ∀ (l : List S) (b : Nat) (g : Gs), J b l g → (forL (fun d g => match bindG d tg g with
      | some g' => exs cl tb body g'
      | none => .stuck) (l.map D.str) g).wp b (fun b' fl => ∃ g', fl = .next g' ∧ J b' [] g') (fun _ _ => False) := by
    intro l
    induction l with
    | nil => intro b g h; exact ⟨g, rfl, h⟩
    | cons x l ih =>
      intro b g h
      obtain ⟨g', h1, h2⟩ := H b x l g h
      refine ev_wp_bind (Tr.wp_mono (fun b2 fl h3 => ?_) (fun _ _ z => z) _ _ (wp_eq (by simp only [h1]) h2))
      obtain ⟨g'', h4, h5⟩ := h3
      rcases h4 with rfl | rfl
      · exact ih _ _ h5
      · exact ih _ _ h5
  have em : (kvs.map fun p => D.str p.1) = (kvs.map (·.1)).map D.str := by rw [map_map]; rfl
  rw [em]
  refine (Tr.wp_noErr _ _).mpr (Tr.wp_mono (fun b2 fl h2 => ?_) (fun _ _ z => z) _ _ (key _ b _ h0))
  obtain ⟨g', rfl, h3⟩ := h2
  exact hend b2 g' h3
end
theorem trd_begs {p : S} (h : isP p) : trd p = (range (p.length + 1)).map fun i => p.take i := by
  have hm : ∀ x, x ∈ trd p ↔ x ∈ (range (p.length + 1)).map fun i => p.take i := fun x => by
    rw [mem_trd_pl h, mem_map]
    constructor
    · rintro ⟨k, rfl⟩
      by_cases hk : k ≤ p.length
      · exact ⟨k, mem_range.mpr (by omega), rfl⟩
      · exact ⟨p.length, mem_range.mpr (by omega), by rw [take_of_length_le (by omega), take_of_length_le (by omega)]⟩
    · rintro ⟨i, _, rfl⟩
      exact ⟨i, rfl⟩
  have pw : ((range (p.length + 1)).map fun i => p.take i).Pairwise (fun a b => a.length < b.length) := by
    rw [pairwise_map]
    refine Pairwise.imp_of_mem (fun {i j} hi hj h => ?_) (pairwise_lt_range (n := p.length + 1))
    have := mem_range.mp hj
    rw [length_take, length_take]
    omega
  have nd : ((range (p.length + 1)).map fun i => p.take i).Nodup := pw.imp fun {a b} h e => by
    subst e
    omega
  have sr : sortP ((range (p.length + 1)).map fun i => p.take i) = (range (p.length + 1)).map fun i => p.take i := mergeSort_of_pairwise (pw.imp fun {a b} h => by simp [leP, h])
  have v := vd_trd h.1
  rw [← v.su, su_eq hm, su_self nd sr]
end Mi
end
section

set_option linter.all false
set_option maxRecDepth 100000
set_option Elab.async false
set_option maxHeartbeats 1000000
/-! Words, and values that are none. -/
namespace K44
open PySem PySem.Spec PyProof.Rows L2 Mi
open List
def oddW (d : D) : Prop := (∃ z, d = .str z ∧ letB z = false ∧ z.length ≤ 1000) ∨ tyIs .str d = .ok false
def badW (d : D) : Prop := oddW d ∨ ∃ w, d = .str w ∧ letB w = true ∧ 200 < w.length ∧ w.length ≤ 1000
section
variable {k : Nat} {d x : D} {u v : S}
theorem c_is_wordS (hk : 1 ≤ k) {z : S} (hl : z.length ≤ line) : C k 0 [.str z] = .ok (.bl (letB z)) := by
  obtain ⟨k, rfl, hj⟩ := lev hk
  show (exs (C k) R.c.tb d_is_word.body [some (.str z, false), none]).bind fin = _
  have h1 : ev (C k) R.c.tb (.lc (.it (.var 0)) (.nm 1) (.inTab false 0 (.var 1))) [some (.str z), none] = .ok (.lst (z.map fun c => .bl (isL c))) :=
    ev_lc (g := fun c => .str [c]) (by simp [evS, ev, Tr.bind, items]) hl (by
      intro c hc
      by_cases h : isL c = true <;> simp [ev, Tr.bind, asStr, tb1, h])
  unfold d_is_word
  rw [exs_ret (d := .bl (letB z)) (by simp [h1, ex, exs, e_var, e_cst, e_bin, e_neg, e_not, e_and, e_or, e_cmp, e_isN, e_isB, e_ife, e_tup, e_lst, e_dct0, e_dct1, e_call, e_bi, e_isi, e_ix, e_sl0, e_slT, e_slF, e_slB, e_rev, e_join, e_low, e_sortk, e_inTab, e_getTab, e_chain, evs, evS, vis, visAt, E.ment, Es.ment, Src.ment, Tr.bind, Tr.noErr, ty_str, ty_tup, ty_T, asBool, asStr, truth, Bi.run, BOp.run, COp.run, opAll_true, clr, clrAt, ownB, E.fresh, imm, immAll, items, opIx_T0, opIx_T1, opLen_str, opLen_lst, opLen_tup, opLen_dct, opLen_T, opSl, opPart, opNeg, seq1, setsS, isLD, plcs_len, immEl_kd, imm_T, opEq_T, opNe_T, opEq_str, opNe_str, opNe_int, opEq_int, opNe_bl, opAll_map, letB])]
  rfl
theorem c_is_wordX (hk : 1 ≤ k) (h : oddW d) : C k 0 [d] = .ok (.bl false) := by
  rcases h with ⟨z, rfl, h1, h2⟩ | h
  · rw [c_is_wordS hk (Nat.le_trans h2 (by decide)), h1]
  · obtain ⟨k, rfl, hj⟩ := lev hk
    show (exs (C k) R.c.tb d_is_word.body [some (d, false), none]).bind fin = _
    unfold d_is_word
    rw [exs_ret (d := .bl false) (by simp [ex, exs, e_var, e_cst, e_bin, e_neg, e_not, e_and, e_or, e_cmp, e_isN, e_isB, e_ife, e_tup, e_lst, e_dct0, e_dct1, e_call, e_bi, e_isi, e_ix, e_sl0, e_slT, e_slF, e_slB, e_rev, e_join, e_low, e_sortk, e_inTab, e_getTab, e_chain, evs, evS, vis, visAt, E.ment, Es.ment, Src.ment, Tr.bind, Tr.noErr, ty_str, ty_tup, ty_T, asBool, asStr, truth, Bi.run, BOp.run, COp.run, opAll_true, clr, clrAt, ownB, E.fresh, imm, immAll, items, opIx_T0, opIx_T1, opLen_str, opLen_lst, opLen_tup, opLen_dct, opLen_T, opSl, opPart, opNeg, seq1, setsS, isLD, plcs_len, immEl_kd, imm_T, opEq_T, opNe_T, opEq_str, opNe_str, opNe_int, opEq_int, opNe_bl, h])]
    rfl
theorem c_need_bad (hk : 2 ≤ k) (h : badW d) : C k 1 [d] = .err 1 := by
  obtain ⟨k, rfl, hj⟩ := lev hk
  show (exs (C k) R.c.tb d_need_word.body [some (d, false)]).bind fin = _
  rcases h with h | ⟨w, rfl, h1, h2, h3⟩
  · have h0 := c_is_wordX hj h
    unfold d_need_word
    simp [ex, exs, e_var, e_cst, e_bin, e_neg, e_not, e_and, e_or, e_cmp, e_isN, e_isB, e_ife, e_tup, e_lst, e_dct0, e_dct1, e_call, e_bi, e_isi, e_ix, e_sl0, e_slT, e_slF, e_slB, e_rev, e_join, e_low, e_sortk, e_inTab, e_getTab, e_chain, evs, evS, vis, visAt, E.ment, Es.ment, Src.ment, Tr.bind, Tr.noErr, ty_str, ty_tup, ty_T, asBool, asStr, truth, Bi.run, BOp.run, COp.run, opAll_true, clr, clrAt, ownB, E.fresh, imm, immAll, items, opIx_T0, opIx_T1, opLen_str, opLen_lst, opLen_tup, opLen_dct, opLen_T, opSl, opPart, opNeg, seq1, setsS, isLD, plcs_len, immEl_kd, imm_T, opEq_T, opNe_T, opEq_str, opNe_str, opNe_int, opEq_int, opNe_bl, h0]
  · have h0 := c_is_word hj h1 (Nat.le_trans h3 (by decide))
    have hn : (200 : Int) < w.length := by omega
    unfold d_need_word
    simp [ex, exs, e_var, e_cst, e_bin, e_neg, e_not, e_and, e_or, e_cmp, e_isN, e_isB, e_ife, e_tup, e_lst, e_dct0, e_dct1, e_call, e_bi, e_isi, e_ix, e_sl0, e_slT, e_slF, e_slB, e_rev, e_join, e_low, e_sortk, e_inTab, e_getTab, e_chain, evs, evS, vis, visAt, E.ment, Es.ment, Src.ment, Tr.bind, Tr.noErr, ty_str, ty_tup, ty_T, asBool, asStr, truth, Bi.run, BOp.run, COp.run, opAll_true, clr, clrAt, ownB, E.fresh, imm, immAll, items, opIx_T0, opIx_T1, opLen_str, opLen_lst, opLen_tup, opLen_dct, opLen_T, opSl, opPart, opNeg, seq1, setsS, isLD, plcs_len, immEl_kd, imm_T, opEq_T, opNe_T, opEq_str, opNe_str, opNe_int, opEq_int, opNe_bl, h0, opGt, hn]
theorem c_treadX (hk : 3 ≤ k) (h : badW d) : C k 6 [d] = .err 1 := by
  obtain ⟨k, rfl, hj⟩ := lev hk
  show (exs (C k) R.c.tb d_tread_of.body [some (d, false)]).bind fin = _
  have h0 := c_need_bad hj h
  unfold d_tread_of
  simp [ex, exs, e_var, e_cst, e_bin, e_neg, e_not, e_and, e_or, e_cmp, e_isN, e_isB, e_ife, e_tup, e_lst, e_dct0, e_dct1, e_call, e_bi, e_isi, e_ix, e_sl0, e_slT, e_slF, e_slB, e_rev, e_join, e_low, e_sortk, e_inTab, e_getTab, e_chain, evs, evS, vis, visAt, E.ment, Es.ment, Src.ment, Tr.bind, Tr.noErr, ty_str, ty_tup, ty_T, asBool, asStr, truth, Bi.run, BOp.run, COp.run, opAll_true, clr, clrAt, ownB, E.fresh, imm, immAll, items, opIx_T0, opIx_T1, opLen_str, opLen_lst, opLen_tup, opLen_dct, opLen_T, opSl, opPart, opNeg, seq1, setsS, isLD, plcs_len, immEl_kd, imm_T, opEq_T, opNe_T, opEq_str, opNe_str, opNe_int, opEq_int, opNe_bl, h0]
end
def sgL : List S := [[101], [69], [122], [49], [32], [45], [126], [95], [64], [123]]
def sgE : E := .lst (.cons (.cst (.str [101])) (.cons (.cst (.str [69])) (.cons (.cst (.str [122])) (.cons (.cst (.str [49])) (.cons (.cst (.str [32])) (.cons (.cst (.str [45])) (.cons (.cst (.str [126])) (.cons (.cst (.str [95])) (.cons (.cst (.str [64])) (.cons (.cst (.str [123])) .nil))))))))))
def oE : E := .lst (.cons (.cst .non) (.cons (.cst (.int 0)) (.cons (.cst (.bl true)) (.cons (.lst .nil) (.cons (.tup .nil) (.cons .dct0 (.cons (.lst (.cons (.var 1) .nil)) (.cons (.tup (.cons (.var 1) .nil)) (.cons (.cst (.int 7)) (.cons (.var 4) (.cons (.var 4) (.cons (.var 4) (.cons (.var 4) (.cons (.var 4) .nil))))))))))))))
theorem sg_odd : ∀ y ∈ sgL, letB y = false ∧ y.length ≤ 1 := by decide
end K44
end
section
set_option linter.all false
set_option maxRecDepth 100000
set_option Elab.async false
/-! Statements by facts of slots, own ones among them. -/
namespace Mi
open List
abbrev Fs := List (Nat × D × Bool)
/-- n slots; what some of them hold, and whether it is own -/
def Fq (n : Nat) (g : Gs) (fs : Fs) : Prop := g.length = n ∧ ∀ p, p ∈ fs → g[p.1]? = some (some p.2)
def drp (i : Nat) : Fs → Fs
  | [] => []
  | (j, x) :: r => match j == i with
    | true => drp i r
    | false => (j, x) :: drp i r
/-- what is known when own ones that are named are own no more -/
def unown (ms : List Nat) : Fs → Fs
  | [] => []
  | (j, d, o) :: r => (j, d, o && !(ms.contains j)) :: unown ms r
/-- what is known in either case -/
def keepo (ms : List Nat) : Fs → Fs
  | [] => []
  | (j, d, o) :: r => match o && ms.contains j with
    | true => keepo ms r
    | false => (j, d, o) :: keepo ms r
theorem mem_drp {i : Nat} : ∀ {fs : Fs} {p : Nat × D × Bool}, p ∈ drp i fs → p ∈ fs ∧ p.1 ≠ i
  | (j, x) :: r, p, h => by
    unfold drp at h
    cases e : j == i with
    | true =>
      rw [e] at h
      have := mem_drp h
      exact ⟨mem_cons_of_mem _ this.1, this.2⟩
    | false =>
      rw [e] at h
      rcases mem_cons.mp h with rfl | h
      · exact ⟨mem_cons_self, by simpa using e⟩
      · have := mem_drp h
        exact ⟨mem_cons_of_mem _ this.1, this.2⟩
  | [], p, h => by simp [drp] at h
theorem clr_getO {ms : List Nat} {g : Gs} {i : Nat} {d : D} {o : Bool} (h : g[i]? = some (some (d, o))) : (clr false ms g)[i]? = some (some (d, o && !(ms.contains i))) := by
  have key : ∀ (g : Gs) (k i : Nat), g[i]? = some (some (d, o)) → (clrAt ms k g)[i]? = some (some (d, o && !(ms.contains (k + i)))) := by
    intro g
    induction g with
    | nil => intro k i h; simp at h
    | cons x g ih =>
      intro k i h
      cases i with
      | zero =>
        have : x = some (d, o) := by simpa using h
        subst this
        rfl
      | succ i =>
        rcases x with _ | ⟨x, o⟩
        · have := ih (k + 1) i (by simpa using h)
          rw [show k + 1 + i = k + (i + 1) by omega] at this
          exact this
        · have := ih (k + 1) i (by simpa using h)
          rw [show k + 1 + i = k + (i + 1) by omega] at this
          exact this
  have := key g 0 i h
  rw [Nat.zero_add] at this
  exact this
section
variable {n : Nat} {g : Gs} {fs fs' : Fs} {i : Nat} {d : D} {o : Bool} {ms : List Nat} {Γ : Ga}
theorem Fq.put (h : Fq n g fs) (hi : i < n) : Fq n (g.set i (some (d, o))) ((i, d, o) :: drp i fs) := by
  refine ⟨by rw [length_set]; exact h.1, fun p hp => ?_⟩
  rcases mem_cons.mp hp with rfl | hp
  · exact getElem?_set_self (by rw [h.1]; exact hi)
  · obtain ⟨h1, h2⟩ := mem_drp hp
    rw [getElem?_set_ne h2.symm]
    exact h.2 p h1
theorem Fq.del (h : Fq n g fs) {x : Option (D × Bool)} : Fq n (g.set i x) (drp i fs) := by
  refine ⟨by rw [length_set]; exact h.1, fun p hp => ?_⟩
  obtain ⟨h1, h2⟩ := mem_drp hp
  rw [getElem?_set_ne h2.symm]
  exact h.2 p h1
theorem Fq.sub (h : Fq n g fs) (hs : ∀ p, p ∈ fs' → p ∈ fs) : Fq n g fs' := ⟨h.1, fun p hp => h.2 p (hs p hp)⟩
theorem mem_unown : ∀ {fs : Fs} {p : Nat × D × Bool}, p ∈ unown ms fs → ∃ o, (p.1, p.2.1, o) ∈ fs ∧ p.2.2 = (o && !(ms.contains p.1))
  | (j, d, o) :: r, p, h => by
    rcases mem_cons.mp (show p ∈ (j, d, o && !(ms.contains j)) :: unown ms r from h) with rfl | h
    · exact ⟨o, mem_cons_self, rfl⟩
    · obtain ⟨o, h1, h2⟩ := mem_unown h
      exact ⟨o, mem_cons_of_mem _ h1, h2⟩
  | [], p, h => by simp [unown] at h
theorem mem_keepo : ∀ {fs : Fs} {p : Nat × D × Bool}, p ∈ keepo ms fs → p ∈ fs ∧ (p.2.2 && ms.contains p.1) = false
  | (j, d, o) :: r, p, h => by
    unfold keepo at h
    cases e : o && ms.contains j with
    | true =>
      rw [e] at h
      have := mem_keepo h
      exact ⟨mem_cons_of_mem _ this.1, this.2⟩
    | false =>
      rw [e] at h
      rcases mem_cons.mp h with rfl | h
      · exact ⟨mem_cons_self, e⟩
      · have := mem_keepo h
        exact ⟨mem_cons_of_mem _ this.1, this.2⟩
  | [], p, h => by simp [keepo] at h
theorem Fq.clrF (h : Fq n g fs) : Fq n (clr false ms g) (unown ms fs) := ⟨clrAt_len.trans h.1, fun p hp => by
  obtain ⟨o, h1, h2⟩ := mem_unown hp
  have := clr_getO (ms := ms) (h.2 _ h1)
  obtain ⟨i, d, o2⟩ := p
  simp only at h2
  rw [h2]
  exact this⟩
theorem Fq.clr (h : Fq n g fs) {b : Bool} : Fq n (clr b ms g) (keepo ms fs) := by
  cases b
  · refine ⟨clrAt_len.trans h.1, fun p hp => ?_⟩
    obtain ⟨h1, h2⟩ := mem_keepo hp
    obtain ⟨i, d, o⟩ := p
    have := clr_getO (ms := ms) (h.2 _ h1)
    have e : (o && !(ms.contains i)) = o := by
      simp only at h2
      cases o
      · rfl
      · simp only [Bool.true_and] at h2 ⊢
        rw [h2]
        rfl
    rw [e] at this
    exact this
  · exact h.sub fun p hp => (mem_keepo hp).1
theorem Fq.at (h : Fq n g fs) (hm : (i, d, o) ∈ fs) : g[i]? = some (some (d, o)) := h.2 (i, d, o) hm
theorem Fq.see (h : Fq n g fs) (s : Seen ms g Γ) (hm : (i, d, o) ∈ fs) (ho : (!o || ms.contains i) = true) : Γ[i]? = some (some d) := s.2 i d o (h.2 (i, d, o) hm) (by
  cases o
  · exact .inl rfl
  · exact .inr (by simpa using ho))
theorem Fq.len (h : Fq n g fs) (s : Seen ms g Γ) : Γ.length = n := s.1.trans h.1
theorem Fq.fx {fs : List (Nat × D)} (h : Fx n g fs) : Fq n g (fs.map fun p => (p.1, p.2, false)) := ⟨h.1, fun p hp => by
  obtain ⟨q, h1, rfl⟩ := mem_map.mp hp
  exact h.2 q h1⟩
end
section
variable {cl : Cl} {tb : Tabs} {e t : E} {es : Es} {is : List Nat} {i j : Nat} {a cs body : Cs} {g : Gs} {b n : Nat} {fs : Fs} {d : D} {P : Nat → Fl → Prop} {Er : Nat → Nat → Prop}
/-- x = e, a value that never changes -/
theorem asgQ (hf : Fq n g fs) (hi : i < n) (hr : e.fresh = false) (d : D) (h : ∀ Γ, Seen e.ment g Γ → ev cl tb e Γ = .ok d) (hd : imm d = true) (H : ∀ g, Fq n g ((i, d, false) :: drp i fs) → (exs cl tb cs g).wp b P Er) : (exs cl tb (.cons (.asg i e) cs) g).wp b P Er :=
  asgN hr fun Γ s => ok_wpI (h Γ s) ⟨hd, H _ (hf.put hi)⟩
/-- x = e, a choice of values that never change -/
theorem asgD (hf : Fq n g fs) (hi : i < n) (hr : e.fresh = false) (h : ∀ Γ, Seen e.ment g Γ → (ev cl tb e Γ).wp b (fun b' d => imm d = true ∧ ∀ g, Fq n g ((i, d, false) :: drp i fs) → (exs cl tb cs g).wp b' P Er) Er) : (exs cl tb (.cons (.asg i e) cs) g).wp b P Er :=
  asgN hr fun Γ s => Tr.wp_mono (fun b' d h => ⟨h.1, h.2 _ (hf.put hi)⟩) (fun _ _ z => z) _ _ (h Γ s)
/-- x = a list or dict of its own -/
theorem asgOwn (hf : Fq n g fs) (hi : i < n) (d : D) (h : ∀ Γ, Seen e.ment g Γ → ev cl tb e Γ = .ok d) (hd : ownB e d = true) (H : ∀ g, Fq n g ((i, d, true) :: drp i fs) → (exs cl tb cs g).wp b P Er) : (exs cl tb (.cons (.asg i e) cs) g).wp b P Er :=
  asgO fun Γ s => ok_wpI (h Γ s) ⟨hd, H _ (hf.put hi)⟩
theorem asgOwnD (hf : Fq n g fs) (hi : i < n) (h : ∀ Γ, Seen e.ment g Γ → (ev cl tb e Γ).wp b (fun b' d => ownB e d = true ∧ ∀ g, Fq n g ((i, d, true) :: drp i fs) → (exs cl tb cs g).wp b' P Er) Er) : (exs cl tb (.cons (.asg i e) cs) g).wp b P Er :=
  asgO fun Γ s => Tr.wp_mono (fun b' d h => ⟨h.1, h.2 _ (hf.put hi)⟩) (fun _ _ z => z) _ _ (h Γ s)
/-- x = any value, which may not be changed -/
theorem asgAny (hf : Fq n g fs) (hi : i < n) (d : D) (h : ∀ Γ, Seen e.ment g Γ → ev cl tb e Γ = .ok d) (hd : ownB e d = false) (H : ∀ g, Fq n g ((i, d, false) :: drp i (keepo e.ment fs)) → (exs cl tb cs g).wp b P Er) : (exs cl tb (.cons (.asg i e) cs) g).wp b P Er :=
  asgX fun Γ s => ok_wpI (h Γ s) ⟨hd, H _ (hf.clr.put hi)⟩
theorem asgAnyD (hf : Fq n g fs) (hi : i < n) (h : ∀ Γ, Seen e.ment g Γ → (ev cl tb e Γ).wp b (fun b' d => ownB e d = false ∧ ∀ g, Fq n g ((i, d, false) :: drp i (keepo e.ment fs)) → (exs cl tb cs g).wp b' P Er) Er) : (exs cl tb (.cons (.asg i e) cs) g).wp b P Er :=
  asgX fun Γ s => Tr.wp_mono (fun b' d h => ⟨h.1, h.2 _ (hf.clr.put hi)⟩) (fun _ _ z => z) _ _ (h Γ s)
/-- a, b = e1, e2 -/
theorem par2 {e1 e2 : E} (hf : Fq n g fs) (hi : i < n) (hj : j < n) (hr : e2.fresh = false) (h : ∀ Γ, Seen ((Es.cons e1 .nil).ment ++ e2.ment) g Γ → (ev cl tb e1 Γ).wp b (fun b1 x => (ev cl tb e2 Γ).wp b1 (fun b2 d => imm x = true ∧ imm d = true ∧ ∀ g, Fq n g ((j, d, false) :: drp j ((i, x, false) :: drp i fs)) → (exs cl tb cs g).wp b2 P Er) Er) Er) : (exs cl tb (.cons (.par [i] (.cons e1 .nil) j e2) cs) g).wp b P Er := by
  refine parN hr fun Γ s => ?_
  show Tr.wp (Tr.bind (ev cl tb e1 Γ) _) b _ Er
  refine ev_wp_bind (Tr.wp_mono (fun b1 x h1 => ?_) (fun _ _ z => z) _ _ (h Γ s))
  show (ev cl tb e2 Γ).wp b1 _ Er
  refine Tr.wp_mono (fun b2 d h2 => ?_) (fun _ _ z => z) _ _ h1
  refine ⟨rfl, ?_, h2.2.1, h2.2.2 _ ((hf.put hi).put hj)⟩
  show (imm x && true) = true
  rw [h2.1]
  rfl
/-- a, b = e1, e2, any values -/
theorem par2X {e1 e2 : E} (hf : Fq n g fs) (hi : i < n) (hj : j < n) (hr : e2.fresh = false) (h : ∀ Γ, Seen ((Es.cons e1 .nil).ment ++ e2.ment) g Γ → (ev cl tb e1 Γ).wp b (fun b1 x => (ev cl tb e2 Γ).wp b1 (fun b2 d => ∀ g, Fq n g ((j, d, false) :: drp j ((i, x, false) :: drp i (keepo ((Es.cons e1 .nil).ment ++ e2.ment) fs))) → (exs cl tb cs g).wp b2 P Er) Er) Er) : (exs cl tb (.cons (.par [i] (.cons e1 .nil) j e2) cs) g).wp b P Er := by
  refine parX hr fun Γ s => ?_
  show Tr.wp (Tr.bind (ev cl tb e1 Γ) _) b _ Er
  refine ev_wp_bind (Tr.wp_mono (fun b1 x h1 => ?_) (fun _ _ z => z) _ _ (h Γ s))
  show (ev cl tb e2 Γ).wp b1 _ Er
  exact Tr.wp_mono (fun b2 d h2 => ⟨rfl, fun x => h2 _ ((hf.clr.put hi).put hj)⟩) (fun _ _ z => z) _ _ h1
/-- a, b = e1, [..] -/
theorem par2O {e1 e2 : E} (hf : Fq n g fs) (hi : i < n) (hj : j < n) (h : ∀ Γ, Seen ((Es.cons e1 .nil).ment ++ e2.ment) g Γ → (ev cl tb e1 Γ).wp b (fun b1 x => (ev cl tb e2 Γ).wp b1 (fun b2 d => imm x = true ∧ ownB e2 d = true ∧ ∀ g, Fq n g ((j, d, true) :: drp j ((i, x, false) :: drp i fs)) → (exs cl tb cs g).wp b2 P Er) Er) Er) : (exs cl tb (.cons (.par [i] (.cons e1 .nil) j e2) cs) g).wp b P Er := by
  refine parO fun Γ s => ?_
  show Tr.wp (Tr.bind (ev cl tb e1 Γ) _) b _ Er
  refine ev_wp_bind (Tr.wp_mono (fun b1 x h1 => ?_) (fun _ _ z => z) _ _ (h Γ s))
  show (ev cl tb e2 Γ).wp b1 _ Er
  refine Tr.wp_mono (fun b2 d h2 => ?_) (fun _ _ z => z) _ _ h1
  refine ⟨rfl, ?_, h2.2.1, h2.2.2 _ ((hf.put hi).put hj)⟩
  show (imm x && true) = true
  rw [h2.1]
  rfl
/-- a test that fails: on -/
theorem guardQ (hf : Fq n g fs) (h : ∀ Γ, Seen t.ment g Γ → ∃ x, ev cl tb t Γ = .ok x ∧ truth x = .ok false) (H : (exs cl tb cs g).wp b P Er) : (exs cl tb (.cons (.ife t a .nil) cs) g).wp b P Er :=
  guardN fun Γ s => by
    obtain ⟨x, h1, h2⟩ := h Γ s
    exact ok_wpI h1 ⟨h2, H⟩
theorem guardB (h : ∀ Γ, Seen t.ment g Γ → ev cl tb t Γ = .ok (.bl false)) (H : (exs cl tb cs g).wp b P Er) : (exs cl tb (.cons (.ife t a .nil) cs) g).wp b P Er :=
  guardN fun Γ s => ok_wpI (h Γ s) ⟨rfl, H⟩
/-- a test told by c -/
theorem iteB {c : Cs} {x : Bool} (h : ∀ Γ, Seen t.ment g Γ → ev cl tb t Γ = .ok (.bl x)) (h1 : x = true → (exs cl tb a g).wp b (fun b2 fl => (seq1 fl fun g' => exs cl tb cs g').wp b2 P Er) Er) (h2 : x = false → (exs cl tb c g).wp b (fun b2 fl => (seq1 fl fun g' => exs cl tb cs g').wp b2 P Er) Er) : (exs cl tb (.cons (.ife t a c) cs) g).wp b P Er :=
  iteN fun Γ s => ok_wpI (h Γ s) ⟨x, rfl, h1, h2⟩
/-- if c: return e -/
theorem iteR {x : Bool} (h : ∀ Γ, Seen t.ment g Γ → ev cl tb t Γ = .ok (.bl x)) (h1 : x = true → ∀ Γ, Seen e.ment g Γ → (ev cl tb e Γ).wp b (fun b' d => P b' (.ret d)) Er) (h2 : x = false → (exs cl tb cs g).wp b P Er) : (exs cl tb (.cons (.ife t (.cons (.ret e) .nil) .nil) cs) g).wp b P Er :=
  iteB h (fun hx => retV fun Γ s => Tr.wp_mono (fun b' d h => h) (fun _ _ z => z) _ _ (h1 hx Γ s)) (fun hx => h2 hx)
theorem retQ (d : D) (h : ∀ Γ, Seen e.ment g Γ → ev cl tb e Γ = .ok d) (H : P b (.ret d)) : (exs cl tb (.cons (.ret e) cs) g).wp b P Er := retV fun Γ s => ok_wpI (h Γ s) H
theorem appQ {xs : List D} (hf : Fq n g fs) (hi : i < n) (hm : (i, .lst xs, true) ∈ fs) (hl : xs.length < line) (y : D) (h : ∀ Γ, Seen e.ment g Γ → ev cl tb e Γ = .ok y) (hy : imm y = true) (H : ∀ g, Fq n g ((i, .lst (xs ++ [y]), true) :: drp i fs) → (exs cl tb cs g).wp b P Er) : (exs cl tb (.cons (.app i e) cs) g).wp b P Er :=
  appN (hf.at hm) hl fun Γ s => ok_wpI (h Γ s) ⟨hy, H _ (hf.put hi)⟩
theorem appD {xs : List D} (hf : Fq n g fs) (hi : i < n) (hm : (i, .lst xs, true) ∈ fs) (hl : xs.length < line) (h : ∀ Γ, Seen e.ment g Γ → (ev cl tb e Γ).wp b (fun b' y => imm y = true ∧ ∀ g, Fq n g ((i, .lst (xs ++ [y]), true) :: drp i fs) → (exs cl tb cs g).wp b' P Er) Er) : (exs cl tb (.cons (.app i e) cs) g).wp b P Er :=
  appN (hf.at hm) hl fun Γ s => Tr.wp_mono (fun b' d h => ⟨h.1, h.2 _ (hf.put hi)⟩) (fun _ _ z => z) _ _ (h Γ s)
theorem setQ {k : E} {d' y x : D} (hf : Fq n g fs) (hi : i < n) (hm : (i, d, true) ∈ fs) (y : D) (hv : ∀ Γ, Seen e.ment g Γ → ev cl tb e Γ = .ok y) (hy : imm y = true) (x : D) (hk : ∀ Γ, Seen k.ment g Γ → ev cl tb k Γ = .ok x) (d' : D) (hs : setO d x y = some d') (H : ∀ g, Fq n g ((i, d', true) :: drp i fs) → (exs cl tb cs g).wp b P Er) : (exs cl tb (.cons (.seti i k e) cs) g).wp b P Er :=
  setiN (hf.at hm) hv hy hk hs (H _ (hf.put hi))
end
theorem fq_start {n : Nat} {g : Gs} {fs : Fs} (h : g.length = n) (hs : ∀ p, p ∈ fs → g[p.1]? = some (some p.2)) : Fq n g fs := ⟨h, hs⟩
end Mi
end
section
set_option linter.all false
set_option maxRecDepth 100000
set_option Elab.async false
/-! try, exceptions. -/
namespace Mi
open List
section
variable {cl : Cl} {tb : Tabs} {e : E} {i j n : Nat} {ws : List Nat} {cs : Cs} {g : Gs} {b : Nat} {P : Nat → Fl → Prop} {Er : Nat → Nat → Prop}
theorem tryN (h : ∀ Γ, Seen e.ment g Γ → (ev cl tb e Γ).wp b (fun b' _ => (exs cl tb cs g).wp b' P Er) (fun b' c => c < n ∧ ws.contains c = true ∧ (exs cl tb cs ((g.set i (some (.exc c, false))).set j none)).wp b' P Er)) : (exs cl tb (.cons (.tryX n e ws i j) cs) g).wp b P Er := by
  refine exs_wp ?_
  show Tr.wp (Tr.catchE _ (Tr.bind (ev cl tb e (vis e.ment g)) _)) b _ Er
  refine (Tr.wp_catchE _ _).mpr ((Tr.wp_bind _ _).mpr (Tr.wp_mono (fun b1 d h1 => h1) (fun b1 c h1 => ?_) _ _ (h _ seen_vis)))
  obtain ⟨h2, h3, h4⟩ := h1
  rw [if_pos h2, h3]
  exact h4
end
theorem e_mkx {cl : Cl} {tb : Tabs} {i : Nat} {e : E} {Γ : Ga} : ev cl tb (.mkx i e) Γ = (ev cl tb e Γ).bind fun _ => .ok (.exc i) := rfl
theorem e_isX {cl : Cl} {tb : Tabs} {q : XQ} {ys : List Nat} {e : E} {Γ : Ga} : ev cl tb (.isX q ys e) Γ = (ev cl tb e Γ).bind (opIsX ys) := rfl
theorem mul_rep {w : S} {n : Nat} (h : w.length * n ≤ 6000000) (hn : n ≤ 6000) : opMul (.str w) (.int (n : Int)) = .ok (.str (List.replicate n w).flatten) := by
  have hline : line = 16777216 := rfl
  have c : (0 : Int) ≤ (n : Int) ∧ (n : Int) < 2 ^ 62 ∧ w.length * (n : Int).toNat ≤ line := by
    refine ⟨by omega, ?_, ?_⟩
    · have e : (2 : Int) ^ 62 = 4611686018427387904 := by decide
      rw [e]
      omega
    · rw [Int.toNat_natCast]
      omega
  simp only [opMul]
  rw [if_pos c, Int.toNat_natCast]
end Mi
end
section

set_option linter.all false
set_option maxRecDepth 100000
set_option Elab.async false
set_option maxHeartbeats 1000000
/-! Kinds of errors. -/
namespace K44
open PySem PySem.Spec PyProof.Rows L2 Mi
open List
def kd (i : Nat) : D := .lst ((range 13).map fun j => .bl (decide (j + 1 = i)))
theorem c_kinds {k i : Nat} (hk : 1 ≤ k) (hi : i < 14) : C k 11 [.exc i] = .ok (kd i) := by
  obtain ⟨k, rfl, hj⟩ := lev hk
  show (exs (C k) R.c.tb d__law_z_kinds.body [some (.exc i, false), none]).bind fin = _
  generalize C k = cl
  generalize R.c.tb = tb
  match i, hi with
  | 0, _ | 1, _ | 2, _ | 3, _ | 4, _ | 5, _ | 6, _ | 7, _ | 8, _ | 9, _ | 10, _ | 11, _ | 12, _ | 13, _ => rfl
end K44
end
section

set_option linter.all false
set_option maxRecDepth 100000
set_option Elab.async false
set_option maxHeartbeats 1000000
/-! Errors by hand. -/
namespace K44
open PySem PySem.Spec PyProof.Rows L2 Mi
open List
def tbody : Cs := match lawC with
  | .cons (.for_ _ _ b) _ => b
  | _ => .nil
def textL (n : Nat) : List S := [[], [97], [110, 111, 32, 119, 111, 114, 100], (List.replicate n [120]).flatten]
def badL : List D := [.str [101], .non, .str (List.replicate 201 [97]).flatten, .str [97, 32, 98], .int 0]
theorem badL_ok : ∀ d, d ∈ badL → badW d := by
  intro d hd
  simp only [badL, mem_cons, not_mem_nil, or_false] at hd
  rcases hd with rfl | rfl | rfl | rfl | rfl
  · exact .inl (.inl ⟨_, rfl, by decide, by decide⟩)
  · exact .inl (.inr rfl)
  · exact .inr ⟨_, rfl, by decide +kernel, by decide +kernel, by decide +kernel⟩
  · exact .inl (.inl ⟨_, rfl, by decide, by decide⟩)
  · exact .inl (.inr rfl)
theorem pick_any {k : Nat} (hk : 7 ≤ k) {l : List D} (h0 : 0 < l.length) (h1 : l.length < 1073741824) {b : Nat} {P : Nat → D → Prop} {Er : Nat → Nat → Prop} (hb : 0 < b) (H : ∀ d, d ∈ l → P (b - 1) d) : (C k 10 [.pen, .lst l]).wp b P Er := by
  rw [c_pick hk (n := l.length) rfl h0 h1]
  refine ⟨h0, hb, fun i hi => ?_⟩
  have : opIx (.lst l) (.int (i : Int)) = .ok (l[i]) := by
    show (match L2.atI l (i : Int) with
      | some d => Tr.ok d
      | none => Tr.stuck) = _
    rw [L2.atI_nat (v := l[i]) (getElem?_eq_getElem hi)]
  show Tr.wp ((opIx (.lst l) (.int (i : Int))).bind fun d => .ok d) (b - 1) P Er
  rw [this]
  exact H _ (getElem_mem hi)
theorem bools_ok {f : Nat → Bool} : isData (.lst ((range 13).map fun j => .bl (f j))) = true ∧ depth (.lst ((range 13).map fun j => .bl (f j))) ≤ 60 := ⟨rfl, Nat.le_of_ble_eq_true rfl⟩
theorem ne_kd {i : Nat} {f : Nat → Bool} (h : ∀ j, j < 13 → f j = decide (j + 1 = i)) : opNe (kd i) (.lst ((range 13).map fun j => .bl (f j))) = .ok (.bl false) := by
  have e : ((range 13).map fun j => D.bl (f j)) = (range 13).map fun j => .bl (decide (j + 1 = i)) := map_congr_left fun j hj => by rw [h j (mem_range.mp hj)]
  rw [e]
  have ok := bools_ok (f := fun j => decide (j + 1 = i))
  show opNe (.lst _) (.lst _) = _
  rw [nelist_ok ⟨ok.1, ok.1, ok.2, ok.2⟩]
  have key : ∀ l : List Nat, eqDs (l.map fun j => D.bl (decide (j + 1 = i))) (l.map fun j => .bl (decide (j + 1 = i))) = true := by
    intro l
    induction l with
    | nil => rfl
    | cons a l ih =>
      show (eqD (.bl (decide (a + 1 = i))) (.bl (decide (a + 1 = i))) && eqDs _ _) = true
      rw [ih]
      simp [eqD]
  show Tr.ok (D.bl (!eqDs _ _)) = _
  rw [key]
  rfl
theorem e_js {cl : Cl} {tb : Tabs} {Γ : Ga} {z : E} {m : Int} (hz : ∀ x, ev cl tb z (Γ.set 7 x) = .ok (.int m)) (hΓ : 7 < Γ.length) : ev cl tb (.lc (.rng1 (.cst (.int 13))) (.nm 7) (.cmp .eq (.var 7) z)) Γ = .ok (.lst ((range 13).map fun j : Nat => .bl (decide ((j : Int) = m)))) :=
  ev_lc (l := range 13) (g := fun j : Nat => D.int (j : Int)) (by
    rw [rng1_ok (n := 13) rfl (by decide)]
    simp [rngL]) (by decide) (fun j hj => by
    have e7 : (Γ.set 7 (some (.int (j : Int))))[7]? = some (some (.int (j : Int))) := getElem?_set_self hΓ
    simp only [e_cmp, e_var, e7, hz, Tr.bind, COp.run, opEq_int])
def errs : List D := [.exc 1, .exc 2, .exc 3, .exc 4, .exc 5, .exc 6, .exc 7, .exc 8, .exc 9, .exc 10, .exc 11, .exc 12, .exc 13]
theorem errs_en : enumL 0 errs = (range 13).map fun i : Nat => .tup [.int (i : Int), .exc (i + 1)] := by rfl
set_option maxHeartbeats 4000000 in
theorem turn {k : Nat} (hk : 61 ≤ k) {b : Nat} (hb : 20 ≤ b) {Er : Nat → Nat → Prop} {g : Gs} (hf : Fq 11 g [(1, .pen, false)]) : (exs (C k) R.c.tb tbody g).wp b (fun b' fl => ∃ g, fl = .next g ∧ Fq 11 g [(1, .pen, false)] ∧ b ≤ b' + 20) Er := by
  have hline : line = 16777216 := rfl
  have t9 : ∀ {b : Nat} {P : Nat → D → Prop} {Er : Nat → Nat → Prop}, 0 < b → (∀ i : Nat, i < 99 → P (b - 1) (.int (i : Int))) → (C k 9 [.pen, .int 99]).wp b P Er := fun {b P Er} h0 h1 => by
    have := c_take (k := k) (n := 99) (by omega) (by decide) (by decide)
    have e : C k 9 [.pen, .int 99] = .take 99 fun i => .ok (.int i) := this
    rw [e]
    exact ⟨by decide, h0, h1⟩
  have t10 : ∀ {l : List D}, 0 < l.length → l.length ≤ 100 → ∀ {b : Nat} {P : Nat → D → Prop} {Er : Nat → Nat → Prop}, 0 < b → (∀ d, d ∈ l → P (b - 1) d) → (C k 10 [.pen, .lst l]).wp b P Er := fun h0 h1 _ _ _ h2 h3 => pick_any (by omega) h0 (by omega) h2 h3
  have t11 : ∀ {i : Nat}, i < 14 → C k 11 [.exc i] = .ok (kd i) := fun h => c_kinds (by omega) h
  have t6 : ∀ {d : D}, badW d → C k 6 [d] = .err 1 := fun h => c_treadX (by omega) h
  unfold tbody lawC
  dsimp only
  generalize C k = cl at t9 t10 t11 t6 ⊢
  generalize R.c.tb = tb
  have om : ∀ i : Nat, i < 99 → opMul (.str [120]) (.int (i : Int)) = .ok (.str (List.replicate i [120]).flatten) := fun i hi => by
    exact mul_rep (w := [120]) (by show 1 * i ≤ _; omega) (by omega)
  refine asgD hf (by decide) rfl fun Γ s => ?_
  have h_pen := hf.see s (i := 1) (.head _) rfl
  refine wp_eq (t' := (cl 9 [.pen, .int 99]).bind fun x => (BOp.run .mul (.str [120]) x).bind fun y => cl 10 [.pen, .lst [.str [], .str [97], .str [110, 111, 32, 119, 111, 114, 100], y]]) (by
    simp only [e_call, e_lst, e_bin, e_cst, e_var, evs, h_pen, Tr.bind_assoc, Tr.ok_bind]) ?_
  refine ev_wp_bind (t9 (by omega) fun i hi => ?_)
  have em : BOp.run .mul (.str [120]) (.int (i : Int)) = .ok (.str (List.replicate i [120]).flatten) := om i hi
  rw [em, Tr.ok_bind]
  show Tr.wp (cl 10 [.pen, .lst ((textL i).map D.str)]) (b - 1) _ Er
  refine t10 (by simp [textL]) (by simp [textL]) (by omega) fun d hd => ?_
  obtain ⟨w, hw, rfl⟩ := mem_map.mp hd
  refine ⟨rfl, fun g hf => ?_⟩
  dsimp only [drp, Nat.reduceBEq] at hf
  refine asgOwn hf (i := 4) (by decide) (.lst [.exc 1, .exc 2, .exc 3, .exc 4, .exc 5, .exc 6]) (fun Γ s => by
    have h_text := hf.see s (i := 3) (.head _) rfl
    simp only [h_text, e_lst, evs, e_mkx, e_var, Tr.bind]) (by first | rfl | simp [ownB, isLD, E.fresh, immEl, immAll, imm, imm_T]) fun g hf => ?_
  dsimp only [drp, unown, keepo, E.ment, Es.ment, Src.ment, List.contains, List.elem, List.append, List.nil_append, List.cons_append, List.append_nil, Bool.and_false, Bool.false_and, Bool.true_and, Bool.and_true, Bool.not_true, Bool.not_false, Bool.or_false, Bool.false_or, Nat.reduceBEq, beq_self_eq_true] at hf
  refine asgOwn hf (by decide) (.lst [.exc 1, .exc 2, .exc 3, .exc 4, .exc 5, .exc 6, .exc 7, .exc 8, .exc 9, .exc 10, .exc 11]) (fun Γ s => ?_) (by rfl) fun g hf => ?_
  · have h4 := hf.see s (i := 4) (.head _) rfl
    have h3 := hf.see s (i := 3) (.tail _ (.head _)) rfl
    simp only [e_cat, e_lst, evs, e_mkx, e_var, h4, h3, Tr.bind]
    rfl
  dsimp only [drp, Nat.reduceBEq] at hf
  refine asgOwn hf (by decide) (.lst errs) (fun Γ s => ?_) (by rfl) fun g hf => ?_
  · have h4 := hf.see s (i := 4) (.head _) rfl
    have h3 := hf.see s (i := 3) (.tail _ (.head _)) rfl
    simp only [e_cat, e_lst, evs, e_mkx, e_var, h4, h3, Tr.bind]
    rfl
  dsimp only [drp, Nat.reduceBEq] at hf
  refine asgQ hf (i := 5) (by decide) rfl (.non) (fun Γ s => by
    simp only [ev, evs, Tr.bind]) (by first | rfl | simp only [imm, immAll, imm_T, Bool.and_self]) fun g hf => ?_
  dsimp only [drp, unown, keepo, E.ment, Es.ment, Src.ment, List.contains, List.elem, List.append, List.nil_append, List.cons_append, List.append_nil, Bool.and_false, Bool.false_and, Bool.true_and, Bool.and_true, Bool.not_true, Bool.not_false, Bool.or_false, Bool.false_or, Nat.reduceBEq, beq_self_eq_true] at hf
  refine tryN fun Γ s => ?_
  have h1 := hf.see s (i := 1) (.tail _ (.tail _ (.tail _ (.head _)))) rfl
  have e201 : (D.int 201) = .int ((201 : Nat) : Int) := rfl
  have om2 : opMul (.str [97]) (.int ((201 : Nat) : Int)) = .ok (.str (List.replicate 201 [97]).flatten) := by
    exact mul_rep (w := [97]) (n := 201) (by decide) (by decide)
  refine wp_eq (t' := (cl 10 [.pen, .lst badL]).bind fun d => cl 6 [d]) (by simp only [ev, evs, BOp.run, h1, Tr.bind, e201, om2, badL, Tr.bind_assoc, Tr.ok_bind]) ?_
  refine ev_wp_bind (t10 (by decide) (by decide) (by omega) fun d hd => ?_)
  rw [t6 (badL_ok d hd)]
  refine ⟨by decide, by decide, ?_⟩
  have hf := (hf.put (i := 5) (d := .exc 1) (o := false) (by decide)).del (i := 6) (x := none)
  dsimp only [drp, Nat.reduceBEq] at hf
  generalize (g.set 5 (some (.exc 1, false))).set 6 none = g at hf ⊢
  refine guardB (fun Γ s => ?_) ?_
  · have h5 := hf.see s (i := 5) (.head _) rfl
    have hj := e_js (cl := cl) (tb := tb) (Γ := Γ) (z := .cst (.int 0)) (m := 0) (fun x => rfl) (by rw [hf.len s]; decide)
    have hn := ne_kd (i := 1) (f := fun j => decide ((j : Int) = 0)) (fun j hj => decide_eq_decide.mpr (by omega))
    simp only [e_or, e_isN, e_cmp, e_call, evs, e_var, h5, Tr.bind, Mi.isNon, asBool, t11 (i := 1) (by decide), hj, COp.run, hn]
    rfl
  refine asgQ hf (i := 8) (by decide) rfl (.exc 0) (fun Γ s => ?_) rfl fun g hf => ?_
  · have h3 := hf.see s (i := 3) (.tail _ (.tail _ (.head _))) rfl
    simp only [e_mkx, e_var, h3, Tr.bind]
  dsimp only [drp, Nat.reduceBEq] at hf
  refine guardB (fun Γ s => ?_) ?_
  · have h8 := hf.see s (i := 8) (.head _) rfl
    have om3 : BOp.run .mul (.lst [.bl false]) (.int 13) = .ok (.lst ((range 13).map fun j : Nat => .bl (decide (j + 1 = 0)))) := by
      show opMul (.lst [.bl false]) (.int 13) = _
      unfold opMul
      exact if_pos ⟨by decide, by decide, by decide⟩
    have hn := ne_kd (i := 0) (f := fun j => decide (j + 1 = 0)) (fun j hj => rfl)
    simp only [e_or, e_not, e_isX, e_bin, e_lst, e_cst, e_cmp, e_call, evs, e_var, h8, Tr.bind, asBool, t11 (i := 0) (by decide), om3, COp.run, hn, opIsX]
    rfl
  refine forM (α := Nat) (g0 := fun i : Nat => D.tup [.int (i : Int), .exc (i + 1)]) (J := fun b2 r g => (∀ i, i ∈ r → i < 13) ∧ b ≤ b2 + 20 ∧ Fq 11 g [(1, .pen, false)]) (fun Γ s => ?_) (fun b2 i r g hJ => ?_) (fun b2 g hJ => nilN ⟨g, rfl, hJ.2.2, hJ.2.1⟩)
  · have h4 := hf.see s (i := 4) (.tail _ (.tail _ (.head _))) rfl
    refine ok_wpI (a := enumL 0 errs) (by simp only [evS, ev, h4, Tr.bind]) ⟨range 13, errs_en, fun i hi => mem_range.mp hi, by omega, (hf.clr (b := false)).sub fun p hp => ?_⟩
    rw [mem_singleton.mp hp]
    simp [keepo, Src.ment, E.ment]
  · obtain ⟨j1, j2, hf⟩ := hJ
    have hi := j1 i mem_cons_self
    refine ⟨_, rfl, ?_⟩
    have hf := (hf.put (i := 9) (d := .int (i : Int)) (o := false) (by decide)).put (i := 10) (d := .exc (i + 1)) (o := false) (by decide)
    dsimp only [drp, Nat.reduceBEq] at hf
    show (exs cl tb _ ((g.set 9 (some (.int (i : Int), false))).set 10 (some (.exc (i + 1), false)))).wp b2 _ Er
    generalize (g.set 9 (some (.int (i : Int), false))).set 10 (some (.exc (i + 1), false)) = g at hf ⊢
    refine guardB (fun Γ s => ?_) ?_
    · have h10 := hf.see s (i := 10) (.head _) rfl
      have h9 := hf.see s (i := 9) (.tail _ (.head _)) rfl
      have hj := e_js (cl := cl) (tb := tb) (Γ := Γ) (z := .var 9) (m := i) (fun x => by
        have : (Γ.set 7 x)[9]? = some (some (.int (i : Int))) := by rw [getElem?_set_ne (by decide)]; exact h9
        simp only [e_var, this]) (by rw [hf.len s]; decide)
      have hn := ne_kd (i := i + 1) (f := fun j => decide ((j : Int) = i)) (fun j hj => decide_eq_decide.mpr (by omega))
      simp only [e_cmp, e_call, evs, e_var, h10, Tr.bind, t11 (i := i + 1) (by omega), hj, COp.run, hn]
    have all : [0, 1, 2, 3, 4, 5, 6, 7, 8, 9, 10, 11, 12, 13].contains (i + 1) = true := by
      have key : ∀ i < 13, [0, 1, 2, 3, 4, 5, 6, 7, 8, 9, 10, 11, 12, 13].contains (i + 1) = true := by decide
      exact key i hi
    refine guardB (fun Γ s => ?_) (guardB (fun Γ s => ?_) (nilN ⟨g, .inl rfl, fun x hx => j1 x (mem_cons_of_mem _ hx), j2, hf.sub (by simp)⟩))
    · have h10 := hf.see s (i := 10) (.head _) rfl
      simp only [e_or, e_not, e_isX, e_var, h10, Tr.bind, opIsX, all, truth, asBool]
      rfl
    · have h10 := hf.see s (i := 10) (.head _) rfl
      have no : ([] : List Nat).contains (i + 1) = false := rfl
      simp only [e_or, e_isX, e_var, h10, Tr.bind, opIsX, no, asBool]
end K44
end
section
set_option linter.all false
set_option maxRecDepth 100000
set_option Elab.async false
set_option maxHeartbeats 2000000
namespace K44
open PySem PySem.Spec PyProof.Rows L2 Mi
theorem spr_eq (k : Nat) (z a : Int) : Mi.call R.dfs R.c.tb R.pen (k + 1) R.spr [.int z, .int a] = (exs (Mi.call R.dfs R.c.tb R.pen k) R.c.tb d__law_spread.body (Mi.start 6 [.int z, .int a])).bind fin := by
  rfl
theorem prime_at (a : Int) : ∃ p : Int, L2.atI ([.int 2147483629, .int 2147483587, .int 2147483579, .int 2147483563, .int 2147483549, .int 2147483543, .int 2147483497, .int 2147483489, .int 2147483477, .int 2147483423, .int 2147483399, .int 2147483353, .int 2147483323] : List D) (a % 13) = some (.int p) ∧ 0 < p ∧ p < 2147483648 := by
  have h0 : 0 ≤ a % 13 := Int.emod_nonneg _ (by decide)
  have h1 : a % 13 < 13 := Int.emod_lt_of_pos _ (by decide)
  generalize a % 13 = r at h0 h1
  obtain ⟨n, rfl⟩ := Int.eq_ofNat_of_zero_le h0
  have h2 : n < 13 := by omega
  match n, h2 with
  | 0, _ | 1, _ | 2, _ | 3, _ | 4, _ | 5, _ | 6, _ | 7, _ | 8, _ | 9, _ | 10, _ | 11, _ | 12, _ => exact ⟨_, rfl, by decide, by decide⟩
/-- one statement on -/
theorem exs_next {cl : Cl} {tb : Tabs} {c : Mi.C} {cs : Cs} {g g' : Gs} (h : ex cl tb c g = .ok (.next g')) : exs cl tb (.cons c cs) g = exs cl tb cs g' := by
  show (ex cl tb c g).bind _ = _
  rw [h]
  rfl
theorem exs_ret {cl : Cl} {tb : Tabs} {c : Mi.C} {cs : Cs} {g : Gs} {d : D} (h : ex cl tb c g = .ok (.ret d)) : exs cl tb (.cons c cs) g = .ok (.ret d) := by
  show (ex cl tb c g).bind _ = _
  rw [h]
  rfl

def PR : List D := [.int 2147483629, .int 2147483587, .int 2147483579, .int 2147483563, .int 2147483549, .int 2147483543, .int 2147483497, .int 2147483489, .int 2147483477, .int 2147483423, .int 2147483399, .int 2147483353, .int 2147483323]
theorem spr_ok (k : Nat) (z a : Int) (h0 : 0 ≤ a) (h1 : a ≤ 1000000) : ∃ r : Int, Mi.call R.dfs R.c.tb R.pen (k + 1) R.spr [.int z, .int a] = .ok (.int r) := by
  rw [spr_eq]
  obtain ⟨p1, e1, a1, b1⟩ := prime_at a
  obtain ⟨p2, e2, a2, b2⟩ := prime_at (a + 5)
  obtain ⟨p3, e3, a3, b3⟩ := prime_at (a + 7)
  generalize Mi.call R.dfs R.c.tb R.pen k = cl
  generalize R.c.tb = tb
  by_cases hz : (10 : Int) ^ 18 ≤ z
  · refine ⟨z, ?_⟩
    unfold d__law_spread
    rw [exs_ret (d := .int z) (by
      have hd : decide ((1000000000000000000 : Int) ≤ z) = true := decide_eq_true (by simpa using hz)
      simp [exs, ex, ev, vis, visAt, E.ment, Mi.start, BOp.run, COp.run, opPow, opGe, Tr.bind, truth, seq1, hd])]
    rfl
  · have hd : decide ((1000000000000000000 : Int) ≤ z) = false := decide_eq_false (by simpa using hz)
    have A0 : 0 ≤ z % 1000000007 := Int.emod_nonneg _ (by decide)
    have A1 : z % 1000000007 < 1000000007 := Int.emod_lt_of_pos _ (by decide)
    unfold d__law_spread
    dsimp only
    rw [exs_next (g' := [some (.int z, false), some (.int a, false), none, none, none, none]) (by simp [exs, ex, ev, vis, visAt, E.ment, Mi.start, BOp.run, COp.run, opPow, opGe, Tr.bind, truth, seq1, hd])]
    rw [exs_next (g' := [some (.int z, false), some (.int a, false), some (.lst (PR.take 8), true), none, none, none]) (by rfl)]
    rw [exs_next (g' := [some (.int z, false), some (.int a, false), some (.lst PR, false), none, none, none]) (by rfl)]
    obtain ⟨m, hm⟩ : ∃ m, m = z % 1000000007 * (2 * a + 69069) := ⟨_, rfl⟩
    have M0 : 0 ≤ m := by rw [hm]; exact Int.mul_nonneg A0 (by omega)
    have M1 : m ≤ 1000000007 * 2069069 := by rw [hm]; exact Int.mul_le_mul (by omega) (by omega) (by omega) (by decide)
    rw [exs_next (g' := [some (.int z, false), some (.int a, false), some (.lst PR, false), some (.int m, false), none, none]) (by
      have c1 : (-18446744073709551616 < z % 1000000007 ∧ z % 1000000007 < 18446744073709551616) ∨ -18446744073709551616 < 2 * a + 69069 ∧ 2 * a + 69069 < 18446744073709551616 := by omega
      simp [ex, ev, evs, vis, visAt, E.ment, Es.ment, clr, clrAt, BOp.run, Bi.run, opAdd, opMul, opMod, Tr.bind, ownB, E.fresh, imm, hm, c1])]
    have q1 : L2.atI PR (a % 13) = some (.int p1) := e1
    have q2 : L2.atI PR ((a + 5) % 13) = some (.int p2) := e2
    have q3 : L2.atI PR ((a + 7) % 13) = some (.int p3) := e3
    have n1 : (m + a * 40503 + 977).natAbs < 18446744073709551616 := by omega
    have n0 : -18446744073709551616 < a ∧ a < 18446744073709551616 := by omega
    obtain ⟨o, ho⟩ : ∃ o, o = (m + a * 40503 + 977) ^ 3 % p1 := ⟨_, rfl⟩
    have O0 : 0 ≤ o := by rw [ho]; exact Int.emod_nonneg _ (by omega)
    have O1 : o < 2147483648 := by rw [ho]; have := Int.emod_lt_of_pos ((m + a * 40503 + 977) ^ 3) a1; omega
    rw [exs_next (g' := [some (.int z, false), some (.int a, false), some (.lst PR, false), some (.int o, false), none, none]) (by
      simp [ex, ev, evs, vis, visAt, E.ment, Es.ment, clr, clrAt, BOp.run, Bi.run, opAdd, opMul, opMod, opPow, opIx, Tr.bind, ownB, E.fresh, imm, n1, n0, q1, a1, ho])]
    obtain ⟨x, hx⟩ : ∃ x, x = o * (a + 3) := ⟨_, rfl⟩
    have X0 : 0 ≤ x := by rw [hx]; exact Int.mul_nonneg O0 (by omega)
    have X1 : x ≤ 2147483648 * 1000003 := by rw [hx]; exact Int.mul_le_mul (by omega) (by omega) (by omega) (by decide)
    have Z0 : 0 ≤ z % 65537 := Int.emod_nonneg _ (by decide)
    have Z1 : z % 65537 < 65537 := Int.emod_lt_of_pos _ (by decide)
    have n2 : (o * (a + 3) + z % 65537 + 5).natAbs < 18446744073709551616 := by rw [← hx]; omega
    have n3 : (-18446744073709551616 < o ∧ o < 18446744073709551616) ∨ -18446744073709551616 < a + 3 ∧ a + 3 < 18446744073709551616 := by omega
    obtain ⟨t, ht⟩ : ∃ t, t = (o * (a + 3) + z % 65537 + 5) ^ 5 % p2 := ⟨_, rfl⟩
    have T0 : 0 ≤ t := by rw [ht]; exact Int.emod_nonneg _ (by omega)
    have T1 : t < 2147483648 := by rw [ht]; have := Int.emod_lt_of_pos ((o * (a + 3) + z % 65537 + 5) ^ 5) a2; omega
    rw [exs_next (g' := [some (.int z, false), some (.int a, false), some (.lst PR, false), some (.int o, false), some (.int t, false), none]) (by
      simp [ex, ev, evs, vis, visAt, E.ment, Es.ment, clr, clrAt, BOp.run, Bi.run, opAdd, opMul, opMod, opPow, opIx, Tr.bind, ownB, E.fresh, imm, n2, n3, q2, a2, ht])]
    have V0 : 0 ≤ o % 1009 := Int.emod_nonneg _ (by decide)
    have V1 : o % 1009 < 1009 := Int.emod_lt_of_pos _ (by decide)
    have n4 : (t + o % 1009 + a).natAbs < 18446744073709551616 := by omega
    rw [exs_next (g' := [some (.int z, false), some (.int a, false), some (.lst PR, false), some (.int o, false), some (.int t, false), some (.int ((t + o % 1009 + a) ^ 3 % p3), false)]) (by
      simp [ex, ev, evs, vis, visAt, E.ment, Es.ment, clr, clrAt, BOp.run, Bi.run, opAdd, opMul, opMod, opPow, opIx, Tr.bind, ownB, E.fresh, imm, n4, q3, a3])]
    refine ⟨(o * 2147483647 + t) * 2147483647 + (t + o % 1009 + a) ^ 3 % p3, ?_⟩
    rw [exs_ret (d := .int ((o * 2147483647 + t) * 2147483647 + (t + o % 1009 + a) ^ 3 % p3)) (by
      simp [ex, ev, evs, vis, visAt, E.ment, Es.ment, clr, clrAt, BOp.run, Bi.run, opAdd, opMul, opMod, opPow, opIx, Tr.bind, ownB, E.fresh, imm])]
    rfl
theorem hspr : ∀ k, 5 ≤ k → ∀ (z a : Int) (b : Nat) (P : Nat → D → Prop) (E : Nat → Nat → Prop), 0 ≤ a → a ≤ 1000000 → (∀ r : Int, P b (.int r)) → (Mi.call R.dfs R.c.tb R.pen k R.spr [.int z, .int a]).wp b P E := by
  intro k hk z a b P E h0 h1 h
  obtain ⟨k', rfl⟩ : ∃ k', k = k' + 1 := ⟨k - 1, by omega⟩
  obtain ⟨r, e⟩ := spr_ok k' z a h0 h1
  rw [e]
  exact h r
end K44
end
section
set_option linter.all false
set_option maxRecDepth 100000
set_option Elab.async false
set_option maxHeartbeats 0
namespace K44
open PySem PySem.Spec PyProof.Rows L2 Mi PySem.W
theorem runF (w : World) : HandSHeadRun.RunEq RR (PySem.W.view RR.prog [LAWTOP]) hk ob 6000 loose (w.withFollow "special-get-raises" false) := by
  intro os
  kernel_rfl
theorem runT (w : World) : HandSHeadRun.RunEq RR (PySem.W.view RR.prog [LAWTOP]) hk ob 6000 loose (w.withFollow "special-get-raises" true) := by
  intro os
  kernel_rfl
theorem run (w : World) : HandSHeadRun.RunEq RR (PySem.W.view RR.prog [LAWTOP]) hk ob 6000 loose w :=
  byRow2 "special-get-raises" (P := fun w => HandSHeadRun.RunEq RR (PySem.W.view RR.prog [LAWTOP]) hk ob 6000 loose w) runF runT w
end K44
end
section
set_option linter.all false
set_option maxRecDepth 100000
set_option Elab.async false
set_option maxHeartbeats 0
namespace K44
open PySem PySem.Spec PyProof.Rows L2 Mi
/-- what the plain part is to bring -/
def Plain : Prop := (∀ k, 5 ≤ k → ∀ (z a : Int) (b : Nat) (P : Nat → D → Prop) (E : Nat → Nat → Prop), 0 ≤ a → a ≤ 1000000 → (∀ r : Int, P b (.int r)) → (Mi.call R.dfs R.c.tb R.pen k R.spr [.int z, .int a]).wp b P E) ∧
    (exs (Mi.call R.dfs R.c.tb R.pen 61) R.c.tb R.lawC (lawS (R.N R.law).length)).wp 1000000 (fun _ fl => fl = .ret (.bl true)) (fun _ _ => False)
end K44
open PySem PySem.W PySem.Calls PyProof.Rows
theorem k44_of (hp : K44.Plain) : PySem.Challenge.rw_solvedtreads_k44_errors_by_hand.Holds := by
  w_on; o_law
  refine HandSHeadRun.head_any (r := OpenLaw.row PySem.Challenge.rw_solvedtreads_k44_errors_by_hand) (q := view (OpenLaw.row PySem.Challenge.rw_solvedtreads_k44_errors_by_hand).prog [K44.LAWTOP]) (H := K44.hk) (ob := K44.ob) (M := 6000) (loose := K44.loose) (d := HandSHeadRun.topDef (OpenLaw.row PySem.Challenge.rw_solvedtreads_k44_errors_by_hand).prog K44.LAWTOP) (kwd := []) K44.ob_eq
    (by kernel_rfl) (fun s => by kernel_rfl) K44.run (by kernel_rfl) (by kernel_rfl) (by kernel_rfl) (by rfl) (by first | assumption | decide +kernel) (by decide +kernel) ⟨rfl, rfl, rfl, rfl, rfl, by decide +kernel⟩ ?hw ?hc
  case hw => w_witness2
  case hc =>
    refine Mi.walk_ofM (l := PySem.Challenge.rw_solvedtreads_k44_errors_by_hand) (n := 63) (k := 186) (x := "script") rfl (by decide) (by kernel_rfl) ⟨rfl, by decide, by decide⟩ ?F
    intro w mg fa h Y G hmg0
    obtain ⟨K, KX, c⟩ := Y
    have hl : K44.R.c.defs[K44.R.law]? = some (("law" : PySem.Str), 1) := by kernel_rfl
    obtain ⟨g, fd, hb, hF⟩ := Mi.row_law (R := K44.R) (P := (PySem.Challenge.rw_solvedtreads_k44_errors_by_hand).prog) (w := w) (m := 60) K44.ok K44.okX K44.binds K44.bindsHo K44.kwAll KX G c hp.1 hp.2 hl
    have e : (HandSHeadRun.topDef (OpenLaw.row PySem.Challenge.rw_solvedtreads_k44_errors_by_hand).prog K44.LAWTOP).name = ("law" : PySem.Str) := by kernel_rfl
    rw [e] at hmg0
    have e2 := hmg0.symm.trans g
    cases e2
    exact ⟨K, fd, K44.R.cs K, K44.R.c.T K, KX, Mi.row_tabs KX c, hb, hF⟩
end
section

set_option linter.all false
set_option maxRecDepth 100000
set_option Elab.async false
set_option maxHeartbeats 1000000
/-! Errors by hand. -/
namespace K44
open PySem PySem.Spec PyProof.Rows L2 Mi
open List
set_option maxHeartbeats 0 in
theorem plain : Plain := by
  refine ⟨hspr, ?_⟩
  have ht : ∀ (b : Nat) (g : Gs) (Er : Nat → Nat → Prop), 20 ≤ b → Fq 11 g [(1, .pen, false)] → (exs (C 61) R.c.tb tbody g).wp b (fun b' fl => ∃ g, fl = .next g ∧ Fq 11 g [(1, .pen, false)] ∧ b ≤ b' + 20) Er := fun b g Er h1 h2 => turn (k := 61) (by decide) h1 h2
  show Tr.wp (exs (C 61) R.c.tb lawC (fr [none, some .pen, none, none, none, none, none, none, none, none, none])) 1000000 _ _
  have hl : lawC = .cons (.for_ (.nm 2) (.rng1 (.cst (.int 2))) tbody) (.cons (.ret (.cst (.bl true))) .nil) := rfl
  rw [hl]
  generalize C 61 = cl at ht ⊢
  generalize R.c.tb = tb at ht ⊢
  refine forN (I := fun b2 r g => Fq 11 g [(1, .pen, false)] ∧ r.length ≤ 2 ∧ 1000 + 20 * r.length ≤ b2) (fun Γ s => ?_) (fun b2 x r g hI => ?_) (fun b2 g hI => ?_)
  · refine ok_wpI (a := rngL 0 (2 : Nat)) (rng1_ok (n := 2) (by simp only [e_var, e_cst, e_bin, e_neg, e_not, e_and, e_or, e_cmp, e_isN, e_isB, e_ife, e_tup, e_lst, e_dct0, e_dct1, e_call, e_bi, e_isi, e_ix, e_sl0, e_slT, e_slF, e_slB, e_rev, e_join, e_low, e_sortk, e_inTab, e_getTab, e_chain, evs, evS, Tr.bind, Tr.noErr, ty_str, ty_tup, ty_T, asBool, asStr, truth, Bi.run, BOp.run, COp.run, opAll_true, imm, immAll, items, opIx_T0, opIx_T1, opLen_str, opLen_lst, opLen_tup, opLen_dct, opLen_T, opSl, opPart, opNeg, seq1, setsS, isLD, plcs_len, immEl_kd, imm_T, opEq_T, opNe_T, opEq_str, opNe_str, opNe_int, opEq_int, opNe_bl]; rfl) (by decide)) ⟨?_, by rw [rngL_len]; decide, by rw [rngL_len]; decide⟩
    refine Fq.sub (Fq.clr (fs := [(1, .pen, false)]) (fq_start rfl fun p hp => ?_)) fun p hp => by simpa [keepo] using hp
    rw [mem_singleton.mp hp]
    rfl
  · obtain ⟨i1, i2, i3⟩ := hI
    rw [length_cons] at i2 i3
    refine ⟨_, rfl, ?_⟩
    refine Tr.wp_mono (fun b3 fl h => ?_) (fun _ _ z => z) _ _ (ht b2 _ _ (by omega) (i1.del.sub (by simp [drp])))
    obtain ⟨g', rfl, j1, j2⟩ := h
    exact ⟨g', .inl rfl, j1, by omega, by omega⟩
  · exact retQ (.bl true) (fun Γ s => rfl) rfl
end K44
end
theorem PySem.Challenge.cw_solvedtreads_k44_errors_by_hand_holds : PySem.Challenge.rw_solvedtreads_k44_errors_by_hand.Holds := by
  exact k44_of K44.plain
